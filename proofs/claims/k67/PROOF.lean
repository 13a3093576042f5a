import PyProof.Rows.All
import Wide.All
import OpenK.AllK
import Wide.FinOn
import HandS.ForMost
import HandS.ForExc
import HandS.Wide
import HandS.IsInst
import HandS.TupAny
import HandS.Style
import HandS.More
import HandS.Deep
import HandS.Text
import HandS.Flow
import HandS.RaiseMore
import HandS.WordsDict
import HandS.CallSlots
import OpenK.KOps
import HandS.Iter
import HandS.Zip
import HandS.Small
import HandS.ExcIs
import HandS.ExcOwn
import HandS.TryMany
import HandS.TryOnly
import HandS.HeadHook1
import PyProof.ExcBaseAll.ValueError
import HandS.Conv
import HandS.IterVal
import KE.KOwnIter
import HandS.HeadEnd
import HandS.Head0
import HandS.Head1
import HandS.Head2
import HandS.HeadHook2
import HandS.HeadHook3
import PySem.Challenge.RW_appendhall_k67_whole_network_runs
set_option Elab.async false
set_option linter.all false
set_option autoImplicit false
set_option maxRecDepth 100000
set_option maxHeartbeats 2000000
/-! MP, part a: values, containers, cells, the layout and the relation to the abstract heap. -/
namespace MP
open PySem PySem.Spec L2

/-- a value: immutable things by value, cells by number -/
inductive MV where
  | non | bl (b : Bool) | int (i : Int) | str (s : Str)
  | tup (xs : List MV)
  /-- a list that is never changed again -/
  | lst (xs : List MV)
  /-- a dict that is never changed again -/
  | dct (ks : List Key) (vs : List MV)
  /-- an instance that is never changed again -/
  | ins (c : Nat) (fs : List String) (vs : List MV)
  /-- a cell -/
  | ref (n : Nat)
  | fn (f : Nat) | cls (c : Nat) | ty (s : String)
  /-- the script: a list that is known, read only -/
  | kl (xs : List MV)
  deriving Inhabited

/-- the content of a container that may change -/
inductive Ct where
  | lst (xs : List MV)
  | dK (ks : List Key) (vs : List MV)
  | dT (ks : List (List Key)) (vs : List MV)
  deriving Inhabited
/-- a field: a value, or a container that nothing else names -/
inductive Fd where
  | val (v : MV)
  | own (c : Ct)
  deriving Inhabited
inductive Cell where
  | ins (c : Nat) (fs : List (String × Fd))
  | ct (c : Ct)
  /-- a dict while a loop walks it -/
  | lk (c : Ct)
  deriving Inhabited
/-- a local name: nothing, a value, a container that nothing else names -/
inductive LV where
  | un
  | val (v : MV)
  | own (c : Ct)
  /-- the exception that is handled -/
  | exc (c : Nat)
  deriving Inhabited
/-- a place of a container: a name, a field -/
inductive Pl where
  | loc (i : Nat)
  | fld (n : Nat) (f : String)
/-- a value, or a container as it stands at a place -/
inductive EV where
  | v (x : MV)
  | w (c : Ct) (p : Pl)
  /-- the exception that is handled -/
  | x (c : Nat)
abbrev MH := List Cell
abbrev ML := List LV

/-- where the functions and classes stand -/
structure Gb where
  K : PySem.W.Frag
  fa : Nat → Addr
  ca : Nat → Addr
  /-- the classes that an except clause may name -/
  cv : Nat → Value
  /-- the module's dicts (text keys) -/
  kd : Addr → List Key → List V → Prop

/-- the layout: where the cells stand, the containers in fields, and what never changes again -/
structure Lay where
  al : Nat → Option Addr
  ow : Nat → String → Option Addr
  fz : Hp

/-- a tuple of the module, or one that was made -/
def TupF (G : Gb) (L : Lay) (a : Addr) (ys : List V) : Prop := L.fz a = some (.tup ys) ∨
  ∃ (o : Obj) (its : Array Value) (n : Nat), G.K.lookup a = some o ∧ o.cls = .type "tuple" ∧ o.data = .seq its n ∧ its.size ≤ sizeLine ∧ Vals ys its.toList
/-- a list that is known, or the module's -/
def KlsF (G : Gb) (L : Lay) (a : Addr) (ys : List V) : Prop := (∃ o, L.fz a = some (.frz o (.lst ys))) ∨
  ∃ (o : Obj) (its : Array Value) (n : Nat), G.K.lookup a = some o ∧ o.cls = .type "list" ∧ o.dict = none ∧ o.data = .seq its n ∧ its.size ≤ sizeLine ∧ Vals ys its.toList
/-- a dict of the module (text keys), or one that was made -/
def DctF (G : Gb) (L : Lay) (a : Addr) (ks : List Key) (ys : List V) : Prop := L.fz a = some (.dK (ks.zip ys)) ∨ G.kd a ks ys

mutual
inductive VR (G : Gb) (L : Lay) (b : Nat) : MV → V → Prop
  | non : VR G L b .non .non
  | bl (k : Bool) : VR G L b (.bl k) (.bl k)
  | int (i : Int) : VR G L b (.int i) (.int i)
  | str (s : Str) : VR G L b (.str s) (.str s)
  | tup {xs : List MV} {a : Addr} {ys : List V} : TupF G L a ys → VRs G L b xs ys → VR G L b (.tup xs) (.ref a)
  | lst {xs : List MV} {a : Addr} {ys : List V} : L.fz a = some (.lst ys) → VRs G L b xs ys → VR G L b (.lst xs) (.ref a)
  | dct {ks : List Key} {xs : List MV} {a : Addr} {ys : List V} : DctF G L a ks ys → ks.length = ys.length → VRs G L b xs ys → VR G L b (.dct ks xs) (.ref a)
  | ins {c : Nat} {fs : List String} {xs : List MV} {a dx : Addr} {ys : List V} : L.fz a = some (.ins (G.ca c) dx ((fs.map Str.ofString).zip ys)) → fs.length = ys.length →
      VRs G L b xs ys → VR G L b (.ins c fs xs) (.ref a)
  | ref {n : Nat} {a : Addr} : n < b → L.al n = some a → VR G L b (.ref n) (.ref a)
  | fn (f : Nat) : VR G L b (.fn f) (.ref (G.fa f))
  | cls (c : Nat) : VR G L b (.cls c) (.ref (G.ca c))
  | ty (s : String) : VR G L b (.ty s) (.ty s)
  | kl {xs : List MV} {a : Addr} {ys : List V} : KlsF G L a ys → VRs G L b xs ys → VR G L b (.kl xs) (.ref a)
inductive VRs (G : Gb) (L : Lay) (b : Nat) : List MV → List V → Prop
  | nil : VRs G L b [] []
  | cons {v : MV} {x : V} {vs : List MV} {xs : List V} : VR G L b v x → VRs G L b vs xs → VRs G L b (v :: vs) (x :: xs)
end

theorem VRs.length {G : Gb} {L : Lay} {b : Nat} : ∀ {vs : List MV} {xs : List V}, VRs G L b vs xs → vs.length = xs.length
  | _, _, .nil => rfl
  | _, _, .cons _ t => congrArg Nat.succ (VRs.length t)
theorem VRs.get {G : Gb} {L : Lay} {b : Nat} : ∀ {vs : List MV} {xs : List V} {i : Nat} {v : MV}, VRs G L b vs xs → vs[i]? = some v → ∃ x, xs[i]? = some x ∧ VR G L b v x
  | _, _, _, _, .nil, e => by simp at e
  | _, _, 0, _, .cons r _, e => by simp at e; subst e; exact ⟨_, rfl, r⟩
  | _, _, i + 1, v, .cons _ t, e => by
    obtain ⟨u, h1, h2⟩ := VRs.get (i := i) (v := v) t (by simpa using e)
    exact ⟨u, by simpa using h1, h2⟩
theorem VRs.append {G : Gb} {L : Lay} {b : Nat} : ∀ {vs ws : List MV} {xs ys : List V}, VRs G L b vs xs → VRs G L b ws ys → VRs G L b (vs ++ ws) (xs ++ ys)
  | _, _, _, _, .nil, s => s
  | _, _, _, _, .cons r t, s => .cons r (VRs.append t s)
theorem VRs.take {G : Gb} {L : Lay} {b : Nat} : ∀ {vs : List MV} {xs : List V} (n : Nat), VRs G L b vs xs → VRs G L b (vs.take n) (xs.take n)
  | _, _, 0, _ => .nil
  | _, _, _ + 1, .nil => .nil
  | _, _, n + 1, .cons r t => .cons r (VRs.take n t)
theorem VRs.drop {G : Gb} {L : Lay} {b : Nat} : ∀ {vs : List MV} {xs : List V} (n : Nat), VRs G L b vs xs → VRs G L b (vs.drop n) (xs.drop n)
  | _, _, 0, r => r
  | _, _, _ + 1, .nil => .nil
  | _, _, n + 1, .cons _ t => VRs.drop n t
theorem VRs.set {G : Gb} {L : Lay} {b : Nat} {v : MV} {x : V} (r : VR G L b v x) : ∀ {vs : List MV} {xs : List V} (i : Nat), VRs G L b vs xs → VRs G L b (vs.set i v) (xs.set i x)
  | _, _, _, .nil => .nil
  | _, _, 0, .cons _ t => .cons r t
  | _, _, i + 1, .cons q t => .cons q (VRs.set r i t)

/-- a layout that knows more -/
structure Ext (b : Nat) (L : Lay) (b' : Nat) (L' : Lay) : Prop where
  le : b ≤ b'
  al : ∀ n a, n < b → L.al n = some a → L'.al n = some a
  fz : ∀ a o, L.fz a = some o → L'.fz a = some o
theorem Ext.refl {b : Nat} {L : Lay} : Ext b L b L := ⟨Nat.le_refl _, fun _ _ _ h => h, fun _ _ h => h⟩
theorem Ext.trans {b b' b'' : Nat} {L L' L'' : Lay} (x : Ext b L b' L') (y : Ext b' L' b'' L'') : Ext b L b'' L'' :=
  ⟨Nat.le_trans x.le y.le, fun n a hn h => y.al n a (Nat.lt_of_lt_of_le hn x.le) (x.al n a hn h), fun a o h => y.fz a o (x.fz a o h)⟩

section
variable {G : Gb} {L L' : Lay} {b b' : Nat}
theorem DctF.mono (x : Ext b L b' L') {a : Addr} {ks : List Key} {ys : List V} : DctF G L a ks ys → DctF G L' a ks ys
  | .inl h => .inl (x.fz _ _ h)
  | .inr h => .inr h
theorem TupF.mono (x : Ext b L b' L') {a : Addr} {ys : List V} : TupF G L a ys → TupF G L' a ys
  | .inl h => .inl (x.fz _ _ h)
  | .inr h => .inr h
theorem KlsF.mono (x : Ext b L b' L') {a : Addr} {ys : List V} : KlsF G L a ys → KlsF G L' a ys
  | .inl ⟨o, h⟩ => .inl ⟨o, x.fz _ _ h⟩
  | .inr h => .inr h
mutual
theorem VR.mono (x : Ext b L b' L') : ∀ {v : MV} {u : V}, VR G L b v u → VR G L' b' v u
  | _, _, .non => .non
  | _, _, .bl k => .bl k
  | _, _, .int i => .int i
  | _, _, .str s => .str s
  | _, _, .tup h r => .tup (h.mono x) (VRs.mono x r)
  | _, _, .lst h r => .lst (x.fz _ _ h) (VRs.mono x r)
  | _, _, .dct h l r => .dct (h.mono x) l (VRs.mono x r)
  | _, _, .ins h l r => .ins (x.fz _ _ h) l (VRs.mono x r)
  | _, _, .ref h e => .ref (Nat.lt_of_lt_of_le h x.le) (x.al _ _ h e)
  | _, _, .fn f => .fn f
  | _, _, .cls c => .cls c
  | _, _, .ty s => .ty s
  | _, _, .kl h r => .kl (h.mono x) (VRs.mono x r)
theorem VRs.mono (x : Ext b L b' L') : ∀ {vs : List MV} {us : List V}, VRs G L b vs us → VRs G L' b' vs us
  | _, _, .nil => .nil
  | _, _, .cons r t => .cons (VR.mono x r) (VRs.mono x t)
end
end

/-- a container's content -/
inductive CtR (G : Gb) (L : Lay) (b : Nat) : Ct → HO → Prop
  | lst {xs : List MV} {ys : List V} : VRs G L b xs ys → CtR G L b (.lst xs) (.lst ys)
  | dK {ks : List Key} {xs : List MV} {ys : List V} : ks.length = ys.length → VRs G L b xs ys → CtR G L b (.dK ks xs) (.dK (ks.zip ys))
  | dT {ks : List (List Key)} {xs : List MV} {ys : List V} : ks.length = ys.length → VRs G L b xs ys → CtR G L b (.dT ks xs) (.dT (ks.zip ys))
theorem CtR.mono {G : Gb} {L L' : Lay} {b b' : Nat} (x : Ext b L b' L') {c : Ct} {o : HO} (r : CtR G L b c o) : CtR G L' b' c o := by
  cases r with
  | lst r => exact .lst (r.mono x)
  | dK l r => exact .dK l (r.mono x)
  | dT l r => exact .dT l (r.mono x)
theorem CtR.mut {G : Gb} {L : Lay} {b : Nat} {c : Ct} {o : HO} (r : CtR G L b c o) : Mut (some o) := by
  cases r <;> trivial

/-- a field: its value; a container at its own place -/
def FdR (G : Gb) (L : Lay) (b : Nat) (H : Hp) (n : Nat) (f : String) : Fd → V → Prop
  | .val v, x => VR G L b v x
  | .own c, x => ∃ a o, x = .ref a ∧ L.ow n f = some a ∧ H a = some o ∧ CtR G L b c o
/-- fields in order -/
inductive FdsR (G : Gb) (L : Lay) (b : Nat) (H : Hp) (n : Nat) : List (String × Fd) → List (Str × V) → Prop
  | nil : FdsR G L b H n [] []
  | cons {f : String} {d : Fd} {x : V} {fs : List (String × Fd)} {ys : List (Str × V)} : FdR G L b H n f d x → FdsR G L b H n fs ys → FdsR G L b H n ((f, d) :: fs) ((Str.ofString f, x) :: ys)
inductive CellR (G : Gb) (L : Lay) (b : Nat) (H : Hp) (n : Nat) : Cell → HO → Prop
  | ins {c : Nat} {fs : List (String × Fd)} {dx : Addr} {ys : List (Str × V)} : FdsR G L b H n fs ys → CellR G L b H n (.ins c fs) (.ins (G.ca c) dx ys)
  | ct {c : Ct} {o : HO} : CtR G L b c o → CellR G L b H n (.ct c) o
  | lk {c : Ct} {o : HO} {od : Obj} : CtR G L b c o → CellR G L b H n (.lk c) (.frz od o)

/-- an address that a cell or a field's container stands at -/
def Held (L : Lay) (a : Addr) : Prop := (∃ n, L.al n = some a) ∨ ∃ n f, L.ow n f = some a

/-- the mini heap is laid out in H -/
structure HR (G : Gb) (L : Lay) (h : MH) (H : Hp) : Prop where
  fz : ∀ a o, L.fz a = some o → H a = some o
  alive : ∀ n a, L.al n = some a → (H a).isSome = true
  olive : ∀ n f a, L.ow n f = some a → (H a).isSome = true
  aa : ∀ m n a, L.al m = some a → L.al n = some a → m = n
  oo : ∀ m f n g a, L.ow m f = some a → L.ow n g = some a → m = n ∧ f = g
  ao : ∀ m n g a, L.al m = some a → L.ow n g = some a → False
  af : ∀ n a, L.al n = some a → L.fz a = none
  of : ∀ n f a, L.ow n f = some a → L.fz a = none
  cell : ∀ n c, h[n]? = some c → ∃ a o, L.al n = some a ∧ H a = some o ∧ CellR G L h.length H n c o

/-- what a piece of code leaves: all that it does not hold is as it was -/
def Frm (L : Lay) (H H' : Hp) : Prop := ∀ a o, H a = some o → ¬ Held L a → H' a = some o
mutual
def MV.beq : MV → MV → Bool
  | .non, .non => true
  | .bl a, .bl b => decide (a = b)
  | .int a, .int b => decide (a = b)
  | .str a, .str b => decide (a = b)
  | .tup a, .tup b => MV.beqs a b
  | .lst a, .lst b => MV.beqs a b
  | .dct k a, .dct l b => decide (k = l) && MV.beqs a b
  | .ins c k a, .ins d l b => decide (c = d) && (decide (k = l) && MV.beqs a b)
  | .ref a, .ref b => decide (a = b)
  | .fn a, .fn b => decide (a = b)
  | .cls a, .cls b => decide (a = b)
  | .ty a, .ty b => decide (a = b)
  | .kl a, .kl b => MV.beqs a b
  | _, _ => false
def MV.beqs : List MV → List MV → Bool
  | [], [] => true
  | x :: xs, y :: ys => MV.beq x y && MV.beqs xs ys
  | _, _ => false
end
mutual
theorem MV.beq_iff : ∀ a b : MV, MV.beq a b = true ↔ a = b
  | .non, b => by cases b <;> simp [MV.beq]
  | .bl _, b => by cases b <;> simp [MV.beq]
  | .int _, b => by cases b <;> simp [MV.beq]
  | .str _, b => by cases b <;> simp [MV.beq]
  | .tup xs, b => by cases b <;> simp [MV.beq, MV.beqs_iff xs]
  | .lst xs, b => by cases b <;> simp [MV.beq, MV.beqs_iff xs]
  | .dct _ xs, b => by cases b <;> simp [MV.beq, MV.beqs_iff xs]
  | .ins _ _ xs, b => by cases b <;> simp [MV.beq, MV.beqs_iff xs]
  | .ref _, b => by cases b <;> simp [MV.beq]
  | .fn _, b => by cases b <;> simp [MV.beq]
  | .cls _, b => by cases b <;> simp [MV.beq]
  | .ty _, b => by cases b <;> simp [MV.beq]
  | .kl xs, b => by cases b <;> simp [MV.beq, MV.beqs_iff xs]
theorem MV.beqs_iff : ∀ a b : List MV, MV.beqs a b = true ↔ a = b
  | [], b => by cases b <;> simp [MV.beqs]
  | x :: xs, b => by cases b <;> simp [MV.beqs, MV.beq_iff x, MV.beqs_iff xs]
end
instance : DecidableEq MV := fun a b => decidable_of_iff _ (MV.beq_iff a b)
instance : DecidableEq Ct := fun a b => match a, b with
  | .lst a, .lst b => decidable_of_iff (a = b) (by simp)
  | .dK k a, .dK l b => decidable_of_iff (k = l ∧ a = b) (by simp)
  | .dT k a, .dT l b => decidable_of_iff (k = l ∧ a = b) (by simp)
  | .lst _, .dK _ _ => .isFalse (by simp)
  | .lst _, .dT _ _ => .isFalse (by simp)
  | .dK _ _, .lst _ => .isFalse (by simp)
  | .dK _ _, .dT _ _ => .isFalse (by simp)
  | .dT _ _, .lst _ => .isFalse (by simp)
  | .dT _ _, .dK _ _ => .isFalse (by simp)
instance : DecidableEq Fd := fun a b => match a, b with
  | .val a, .val b => decidable_of_iff (a = b) (by simp)
  | .own a, .own b => decidable_of_iff (a = b) (by simp)
  | .val _, .own _ => .isFalse (by simp)
  | .own _, .val _ => .isFalse (by simp)
instance : DecidableEq Cell := fun a b => match a, b with
  | .ins c a, .ins d b => decidable_of_iff (c = d ∧ a = b) (by simp)
  | .ct a, .ct b => decidable_of_iff (a = b) (by simp)
  | .lk a, .lk b => decidable_of_iff (a = b) (by simp)
  | .ins _ _, .ct _ => .isFalse (by simp)
  | .ct _, .ins _ _ => .isFalse (by simp)
  | .ins _ _, .lk _ => .isFalse (by simp)
  | .lk _, .ins _ _ => .isFalse (by simp)
  | .ct _, .lk _ => .isFalse (by simp)
  | .lk _, .ct _ => .isFalse (by simp)
end MP
set_option Elab.async false
set_option linter.all false
set_option autoImplicit false
set_option maxRecDepth 100000
set_option maxHeartbeats 2000000
/-! MP, part b: steps between laid-out heaps, the frame's names, points. -/
namespace MP
open PySem PySem.Spec L2

/-- from one laid-out heap to another; q: nothing that stood has changed -/
structure Step (G : Gb) (q : Bool) (L : Lay) (h : MH) (H : Hp) (L' : Lay) (h' : MH) (H' : Hp) : Prop where
  ext : Ext h.length L h'.length L'
  hr : HR G L' h' H'
  frm : Frm L H H'
  dom : ∀ a, (H a).isSome = true → (H' a).isSome = true
  new1 : ∀ a, (H a).isSome = true → Held L' a → Held L a
  new2 : ∀ a, (H a).isSome = true → (L'.fz a).isSome = true → (L.fz a).isSome = true ∨ Held L a
  mon : q = true → (∀ a o, H a = some o → H' a = some o) ∧ L'.ow = L.ow
  lk : ∀ n c, h[n]? = some (.lk c) → h'[n]? = some (.lk c) ∧ ∀ a, L.al n = some a → H' a = H a
section
variable {G : Gb} {q q' : Bool} {L L' L'' : Lay} {h h' h'' : MH} {H H' H'' : Hp}
theorem Step.refl (r : HR G L h H) : Step G q L h H L h H := ⟨.refl, r, fun _ _ e _ => e, fun _ e => e, fun _ _ x => x, fun _ _ x => .inl x, fun _ => ⟨fun _ _ e => e, rfl⟩, fun _ _ e => ⟨e, fun _ _ => rfl⟩⟩
theorem Step.weak (x : Step G q L h H L' h' H') (i : q' = true → q = true) : Step G q' L h H L' h' H' := ⟨x.ext, x.hr, x.frm, x.dom, x.new1, x.new2, fun z => x.mon (i z), x.lk⟩
theorem Step.any (x : Step G q L h H L' h' H') : Step G false L h H L' h' H' := x.weak fun z => Bool.noConfusion z
theorem Step.trans (x : Step G q L h H L' h' H') (y : Step G q L' h' H' L'' h'' H'') : Step G q L h H L'' h'' H'' := by
  refine ⟨x.ext.trans y.ext, y.hr, fun a o e n => ?_, fun a e => y.dom a (x.dom a e), fun a e z => ?_, fun a e z => ?_, fun hq => ?_, fun n c e => ?_⟩
  · exact y.frm a o (x.frm a o e n) fun z => n (x.new1 a (by rw [e]; rfl) z)
  · exact x.new1 a e (y.new1 a (x.dom a e) z)
  · rcases y.new2 a (x.dom a e) z with q | q
    · exact x.new2 a e q
    · exact .inr (x.new1 a e q)
  · obtain ⟨m1, o1⟩ := x.mon hq
    obtain ⟨m2, o2⟩ := y.mon hq
    exact ⟨fun a o e => m2 a o (m1 a o e), o2.trans o1⟩
  · obtain ⟨e1, l1⟩ := x.lk n c e
    obtain ⟨e2, l2⟩ := y.lk n c e1
    exact ⟨e2, fun a al => (l2 a (x.ext.al n a (List.getElem?_eq_some_iff.mp e).1 al)).trans (l1 a al)⟩
theorem Step.tr {q1 q2 : Bool} (x : Step G q1 L h H L' h' H') (y : Step G q2 L' h' H' L'' h'' H'') (i1 : q = true → q1 = true) (i2 : q = true → q2 = true) : Step G q L h H L'' h'' H'' := (x.weak i1).trans (y.weak i2)
theorem Step.vr (x : Step G q L h H L' h' H') {v : MV} {u : V} (r : VR G L h.length v u) : VR G L' h'.length v u := r.mono x.ext
theorem Step.vrs (x : Step G q L h H L' h' H') {v : List MV} {u : List V} (r : VRs G L h.length v u) : VRs G L' h'.length v u := r.mono x.ext
end

/-- one name -/
def SlR (G : Gb) (L : Lay) (b : Nat) (H : Hp) (px : Addr → Nat → Prop) (lam : Nat → Option Addr) (i : Nat) : LV → Option V → Prop
  | .un, _ => True
  | .exc c, o => ∃ a, o = some (.ref a) ∧ px a c
  | .val v, o => ∃ x, o = some x ∧ VR G L b v x
  | .own c, o => ∃ a u, o = some (.ref a) ∧ lam i = some a ∧ H a = some u ∧ CtR G L b c u ∧ ¬ Held L a ∧ L.fz a = none
/-- the names of a frame -/
structure SR (G : Gb) (L : Lay) (b : Nat) (H : Hp) (px : Addr → Nat → Prop) (lam : Nat → Option Addr) (σm : ML) (σ : L2.St) : Prop where
  len : σm.length = σ.length
  slot : ∀ (i : Nat) (v : LV) (x : Option V), σm[i]? = some v → σ[i]? = some x → SlR G L b H px lam i v x
  inj : ∀ (i j : Nat) (c d : Ct) (a : Addr), σm[i]? = some (.own c) → σm[j]? = some (.own d) → lam i = some a → lam j = some a → i = j
/-- values that are kept in mind (what a loop walks), cells that are locked -/
structure Kp where
  v : List MV := []
  u : List V := []
  l : List (Nat × Addr × HO × Ct) := []
def Kp.at (k : Kp) (G : Gb) (L : Lay) (h : MH) (H : Hp) : Prop := VRs G L h.length k.v k.u ∧ ∀ n a o c, (n, a, o, c) ∈ k.l → L.al n = some a ∧ H a = some o ∧ h[n]? = some (.lk c)
theorem Kp.step {G : Gb} {q : Bool} {L L' : Lay} {h h' : MH} {H H' : Hp} {k : Kp} (z : k.at G L h H) (x : Step G q L h H L' h' H') : k.at G L' h' H' := ⟨x.vrs z.1, fun n a o c e => by
  obtain ⟨e1, e2, e3⟩ := z.2 n a o c e
  obtain ⟨f1, f2⟩ := x.lk n c e3
  exact ⟨x.ext.al n a (List.getElem?_eq_some_iff.mp e3).1 e1, (f2 a e1).trans e2, f1⟩⟩
theorem Kp.of {G : Gb} {L : Lay} {h : MH} {H : Hp} {v : List MV} {u : List V} (r : VRs G L h.length v u) : Kp.at ⟨v, u, []⟩ G L h H := ⟨r, fun _ _ _ _ e => nomatch e⟩
/-- the entry of a def -/
structure Ent where
  L : Lay
  h : MH
  H : Hp
  /-- the exception that is handled -/
  px : Addr → Nat → Prop
  /-- what is kept in mind -/
  pn : Kp → Prop
/-- a point of a def's body -/
structure Pt (G : Gb) (E : Ent) (L : Lay) (lam : Nat → Option Addr) (σm : ML) (h : MH) (σ : L2.St) (H : Hp) : Prop where
  stp : Step G false E.L E.h E.H L h H
  sr : SR G L h.length H E.px lam σm σ
  new : ∀ (i : Nat) (c : Ct) (a : Addr), σm[i]? = some (.own c) → lam i = some a → E.H a = none
  pin : ∀ k, E.pn k → k.at G L h H

/-- what an expression comes to -/
def ER (G : Gb) (px : Addr → Nat → Prop) (L : Lay) (b : Nat) (H : Hp) (lam : Nat → Option Addr) : EV → V → Prop
  | .v x, u => VR G L b x u
  | .w c (.loc i), u => ∃ a o, u = .ref a ∧ lam i = some a ∧ H a = some o ∧ CtR G L b c o ∧ ¬ Held L a ∧ L.fz a = none
  | .w c (.fld n f), u => ∃ a o, u = .ref a ∧ n < b ∧ L.ow n f = some a ∧ H a = some o ∧ CtR G L b c o
  | .x c, u => ∃ a, u = .ref a ∧ px a c
def EV.isFld : EV → Bool
  | .w _ (.fld _ _) => true
  | _ => false
section
variable {G : Gb} {E : Ent} {px : Addr → Nat → Prop} {q : Bool} {L L' : Lay} {lam : Nat → Option Addr} {σm : ML} {h h' : MH} {σ : L2.St} {H H' : Hp}
theorem own_step {a : Addr} {u : HO} {c : Ct} (x : Step G q L h H L' h' H') (hu : H a = some u) (r : CtR G L h.length c u) (n : ¬ Held L a) (f : L.fz a = none) : H' a = some u ∧ CtR G L' h'.length c u ∧ ¬ Held L' a ∧ L'.fz a = none := by
  have hs : (H a).isSome = true := by rw [hu]; rfl
  refine ⟨x.frm a u hu n, r.mono x.ext, fun z => n (x.new1 a hs z), ?_⟩
  cases q : L'.fz a with
  | none => rfl
  | some o =>
    rcases x.new2 a hs (by rw [q]; rfl) with z | z
    · rw [f] at z; cases z
    · exact absurd z n
theorem SR.step (s : SR G L h.length H px lam σm σ) (x : Step G q L h H L' h' H') : SR G L' h'.length H' px lam σm σ := by
  refine ⟨s.len, fun i v y e1 e2 => ?_, s.inj⟩
  have q := s.slot i v y e1 e2
  cases v with
  | un => trivial
  | exc c => exact q
  | val v => obtain ⟨z, e, r⟩ := q; exact ⟨z, e, x.vr r⟩
  | own c =>
    obtain ⟨a, u, e, l, hu, r, n, f⟩ := q
    obtain ⟨h1, h2, h3, h4⟩ := own_step x hu r n f
    exact ⟨a, u, e, l, h1, h2, h3, h4⟩
theorem ER.step {e : EV} {u : V} (r : ER G px L h.length H lam e u) (x : Step G q L h H L' h' H') (i : e.isFld = true → q = true) : ER G px L' h'.length H' lam e u := by
  cases e with
  | v y => exact x.vr r
  | x c => exact r
  | w c p =>
    cases p with
    | loc i =>
      obtain ⟨a, o, e, l, hu, r, n, f⟩ := r
      obtain ⟨h1, h2, h3, h4⟩ := own_step x hu r n f
      exact ⟨a, o, e, l, h1, h2, h3, h4⟩
    | fld n f =>
      obtain ⟨a, o, e, hn, l, hu, r⟩ := r
      obtain ⟨m, ow⟩ := x.mon (i rfl)
      exact ⟨a, o, e, Nat.lt_of_lt_of_le hn x.ext.le, by rw [ow]; exact l, m a o hu, r.mono x.ext⟩
theorem Pt.step (p : Pt G E L lam σm h σ H) (x : Step G q L h H L' h' H') : Pt G E L' lam σm h' σ H' := ⟨p.stp.trans x.any, p.sr.step x, p.new, fun k e => Kp.step (p.pin k e) x⟩
theorem Pt.hr (p : Pt G E L lam σm h σ H) : HR G L h H := p.stp.hr
theorem Pt.at (p : Pt G E L lam σm h σ H) {i : Nat} {v : LV} (e : σm[i]? = some v) : ∃ x, σ[i]? = some x ∧ SlR G L h.length H E.px lam i v x := by
  have hi : i < σ.length := by rw [← p.sr.len]; exact (List.getElem?_eq_some_iff.mp e).1
  exact ⟨σ[i], List.getElem?_eq_getElem hi, p.sr.slot i _ _ e (List.getElem?_eq_getElem hi)⟩
end

/-! ### results -/
inductive Res (α : Type) where
  | ok (a : α) (h : MH)
  | exc (c : Nat) (h : MH)
  | bad
def Res.bind {α β : Type} (r : Res α) (f : α → MH → Res β) : Res β := match r with
  | .ok a h => f a h
  | .exc c h => .exc c h
  | .bad => .bad
@[simp] theorem bind_ok {α β : Type} (a : α) (h : MH) (f : α → MH → Res β) : (Res.ok a h).bind f = f a h := rfl
@[simp] theorem bind_exc {α β : Type} (c : Nat) (h : MH) (f : α → MH → Res β) : (Res.exc c h : Res α).bind f = .exc c h := rfl
@[simp] theorem bind_bad {α β : Type} (f : α → MH → Res β) : (Res.bad : Res α).bind f = .bad := rfl
/-- what a result leads to -/
def Res.Post {α : Type} (r : Res α) (P : α → MH → Prop) (X : Nat → MH → Prop) : Prop := match r with
  | .ok a h => P a h
  | .exc c h => X c h
  | .bad => False
theorem Post.bind {α β : Type} {r : Res α} {f : α → MH → Res β} {P : β → MH → Prop} {X : Nat → MH → Prop} (q : (r.bind f).Post P X) : r.Post (fun a h => (f a h).Post P X) X := by
  cases r with
  | ok a h => exact q
  | exc c h => exact q
  | bad => exact q
theorem Post.imp {α : Type} {r : Res α} {P P' : α → MH → Prop} {X X' : Nat → MH → Prop} (q : r.Post P X) (hp : ∀ a h, P a h → P' a h) (hx : ∀ c h, X c h → X' c h) : r.Post P' X' := by
  cases r with
  | ok a h => exact hp a h q
  | exc c h => exact hx c h q
  | bad => exact q
/-- a result that is a value -/
def Res.vb {α : Type} (r : Res EV) (f : MV → MH → Res α) : Res α := r.bind fun e h => match e with
  | .v x => f x h
  | _ => .bad
def Res.vl (r : Res EV) : Res MV := r.vb fun x h => .ok x h
abbrev EE := ML → MH → Res EV

/-- a step to what is wanted -/
def Evs (G : Gb) (px : Addr → Nat → Prop) (lam : Nat → Option Addr) (q : Bool) (L : Lay) (h : MH) (H : Hp) (Q : VK) : EV → MH → Prop := fun e h' => ∀ L' H' x, Step G q L h H L' h' H' → ER G px L' h'.length H' lam e x → Q x H'
def Val (G : Gb) (q : Bool) (L : Lay) (h : MH) (H : Hp) (Q : VK) : MV → MH → Prop := fun v h' => ∀ L' H' x, Step G q L h H L' h' H' → VR G L' h'.length v x → Q x H'
def Rai (G : Gb) (L : Lay) (h : MH) (H : Hp) (W : WX) (σ : L2.St) : Nat → MH → Prop := fun c h' => ∀ L' H', Step G false L h H L' h' H' → W (G.cv c) none σ H'
section
variable {G : Gb} {px : Addr → Nat → Prop} {lam : Nat → Option Addr} {q q1 q2 : Bool} {L L' : Lay} {h h' : MH} {H H' : Hp} {W : WX} {σ : L2.St}
theorem Evs.at {Q : VK} (s : Step G q1 L h H L' h' H') {e : EV} {k : MH} (z : Evs G px lam q L h H Q e k) (i1 : q = true → q1 = true) (i2 : q = true → q2 = true) : Evs G px lam q2 L' h' H' Q e k := fun L2 H2 x s2 => z L2 H2 x (s.tr s2 i1 i2)
theorem Val.at {Q : VK} (s : Step G q1 L h H L' h' H') {e : MV} {k : MH} (z : Val G q L h H Q e k) (i1 : q = true → q1 = true) (i2 : q = true → q2 = true) : Val G q2 L' h' H' Q e k := fun L2 H2 x s2 => z L2 H2 x (s.tr s2 i1 i2)
theorem Rai.at (s : Step G q L h H L' h' H') {c : Nat} {k : MH} (z : Rai G L h H W σ c k) : Rai G L' h' H' W σ c k := fun L2 H2 s2 => z L2 H2 (s.any.trans s2)
end
/-- an expression's reading: where the meaning is a value, what follows holds of it; where it raises, the wish -/
def rd (G : Gb) (E : Ent) (W : WX) (q : Bool) (m : EE) : TE := fun σ H Q => ∃ L lam σm h, Pt G E L lam σm h σ H ∧ (m σm h).Post (Evs G E.px lam q L h H Q) (Rai G L h H W σ)

end MP
namespace L2
open PySem PySem.Spec
theorem PE.imp {X : Cx} {e : Expr} {t t' : TE} (p : PE X e t) (h : ∀ σ H Q, t' σ H Q → t σ H Q) : PE X e t' := ⟨fun pins s σ H Q I q => p.run pins s σ H Q I (h σ H Q q)⟩
theorem PT.imp {X : Cx} {e : Expr} {t t' : TT} (p : PT X e t) (h : ∀ σ H Q, t' σ H Q → t σ H Q) : PT X e t' := ⟨fun pins s σ H Q I q => p.run pins s σ H Q I (h σ H Q q)⟩
theorem PW.imp {X : Cx} {e : Expr} {t t' : TT} (p : PW X e t) (h : ∀ σ H Q, t' σ H Q → t σ H Q) : PW X e t' := ⟨fun wh pins s σ H Q I q => p.run wh pins s σ H Q I (h σ H Q q)⟩
theorem PA.imp {X : Cx} {e : List Expr} {t t' : TA} (p : PA X e t) (h : ∀ σ H Q, t' σ H Q → t σ H Q) : PA X e t' := ⟨fun pos pins s σ H Q I q => p.run pos pins s σ H Q I (h σ H Q q)⟩
theorem PS.imp {X : Cx} {e : Stmt} {t t' : TS} (p : PS X e t) (h : ∀ D σ H, t' D σ H → t D σ H) : PS X e t' := ⟨fun pins s σ H D I q => p.run pins s σ H D I (h D σ H q)⟩
theorem PSs.imp {X : Cx} {e : List Stmt} {t t' : TS} (p : PSs X e t) (h : ∀ D σ H, t' D σ H → t D σ H) : PSs X e t' := ⟨fun pins s σ H D I q => p.run pins s σ H D I (h D σ H q)⟩

end L2
namespace MP
open PySem PySem.Spec L2

/-- a rule by values, for the meaning f -/
def Ru2 (G : Gb) (q : Bool) (f : EV → EV → MH → Res MV) (r : R2) : Prop := ∀ px lam L h H Q (Z : Nat → MH → Prop) x y u v, HR G L h H → ER G px L h.length H lam x u → ER G px L h.length H lam y v → (f x y h).Post (Val G q L h H Q) Z → r u v H Q
/-- two expressions in a row, then a rule by values: where the first may be a field's container, the second is quiet -/
theorem rd2 {G : Gb} {E : Ent} {W : WX} {q qa qb : Bool} {a b : EE} {f : EV → EV → MH → Res MV} {r : R2} {σ : L2.St} {H : Hp} {Q : VK} (hr : Ru2 G q f r)
    (nf : qb = true ∨ ∀ σ h x h', a σ h = .ok x h' → x.isFld = false) (ia : q = true → qa = true) (ib : q = true → qb = true)
    (z : rd G E W q (fun s h => (a s h).bind fun x h1 => (b s h1).bind fun y h2 => (f x y h2).bind fun v h3 => .ok (.v v) h3) σ H Q) : tOp r (rd G E W qa a) (rd G E W qb b) σ H Q := by
  obtain ⟨L, lam, σm, h, p, z⟩ := z
  have z1 := Post.bind z
  refine ⟨L, lam, σm, h, p, ?_⟩
  cases ea : a σm h with
  | bad => rw [ea] at z1; exact z1
  | exc c k => rw [ea] at z1; exact z1
  | ok x h1 =>
    rw [ea] at z1
    intro L1 H1 u s1 r1
    refine ⟨L1, lam, σm, h1, p.step s1, Post.imp (Post.bind z1) (fun y h2 z2 L2 H2 v s2 r2 => ?_) fun _ _ z => z.at s1⟩
    have r1' : ER G E.px L2 h2.length H2 lam x u := r1.step s2 fun e => by
      rcases nf with n | n
      · exact n
      · rw [n _ _ _ _ ea] at e; cases e
    refine hr E.px lam L2 h2 H2 _ _ x y u v s2.hr r1' r2 (Post.imp (Post.bind z2) (fun w h3 z3 L3 H3 u3 s3 r3 => ?_) fun _ _ z => z)
    exact z3 L3 H3 u3 ((s1.tr s2 ia ib).tr s3 (fun e => e) (fun e => e)) r3
end MP
set_option Elab.async false
set_option linter.all false
set_option autoImplicit false
set_option maxRecDepth 100000
set_option maxHeartbeats 2000000
/-! MP, part c: the mini language and its meaning. -/
namespace MP
open PySem PySem.Spec L2

inductive B2 where
  | add | sub | mul | mod | fdiv | pow | eq | ne | lt | le | gt | ge | is | isnot | in | notin
  deriving DecidableEq
inductive Bi where
  | isinst | len | ord | int | str | tuple | max | min | sum
  deriving DecidableEq

mutual
inductive Ex where
  | var (i : Nat)
  | non | bl (k : Bool) | int (i : Int) | str (s : String)
  /-- a global name and its value -/
  | gl (x : String) (v : MV)
  | op (o : B2) (a b : Ex)
  | neg (a : Ex)
  | not (a : Ex)
  | chain (o o' : B2) (a b c : Ex)
  | ife (c a b : Ex)
  | and (es : Exs)
  | or (es : Exs)
  | tup (es : Exs)
  /-- a fresh container that is never changed again; as a cell -/
  | fz (c : Fx)
  | cl (c : Fx)
  | fld (a : Ex) (f : String)
  | ix (a b : Ex)
  /-- a slice of a text or tuple -/
  | sl (a : Ex) (lo hi : Exo)
  | call (f : Nat) (es : Exs)
  | meth (a : Ex) (m : String) (es : Exs)
  | make (c : Nat) (es : Exs)
  | bi (b : Bi) (es : Exs)
  | join (a b : Ex)
  /-- isinstance of the exception that is handled -/
  | isx (i : Nat) (x : String) (v : MV)
  /-- len(o), by the class's own def -/
  | lenO (a : Ex)
inductive Exs where
  | nil
  | cons (e : Ex) (es : Exs)
inductive Exo where
  | no
  | yes (e : Ex)
/-- fresh containers -/
inductive Fx where
  | lst (es : Exs)
  | dnew
  | cat (a b : Ex)
  | slc (a : Ex) (lo hi : Exo)
  | list (a : Ex)
  /-- list(d), d a dict -/
  | listD (a : Ex)
  | comp (x : Tg) (it : Ite) (c : Exo) (e : Ex)
  /-- .. over a dict -/
  | compK (x : Tg) (d : Dw) (c : Exo) (e : Ex)
  | split (a b : Ex)
/-- what is walked -/
inductive Ite where
  | over (a : Ex)
  | range1 (a : Ex)
  | range2 (a b : Ex)
  /-- the signs of a text; two tuples -/
  | text (a : Ex)
  | zip (a b : Ex)
  /-- an object with an own __iter__ -/
  | own (a : Ex)
/-- a dict that is walked: its keys, its pairs; by an object's own __iter__ -/
inductive Dw where
  | keys (a : Ex)
  | items (a : Ex)
  | own (a : Ex)
/-- a target -/
inductive Tg where
  | var (i : Nat)
  | tup (is : List Nat)
end
inductive Mu where
  | append | extend
  deriving DecidableEq

mutual
inductive Sx where
  | set (i : Nat) (e : Ex)
  | setOwn (i : Nat) (c : Fx)
  | unp (is : List Nat) (e : Ex)
  | setFld (a : Ex) (f : String) (e : Ex)
  /-- name op= e -/
  | aug (i : Nat) (o : B2) (e : Ex)
  | augFld (a : Ex) (f : String) (o : B2) (e : Ex)
  | setIx (a b e : Ex)
  | delIx (a b : Ex)
  | mut (m : Mu) (a e : Ex)
  | exp (e : Ex)
  | ret (e : Ex)
  | retN
  | ite (c : Ex) (t e : Sxs)
  | for (x : Tg) (it : Ite) (b : Sxs)
  | forK (x : Tg) (d : Dw) (b : Sxs)
  /-- a statement that is never reached -/
  | never
  | whil (c : Ex) (b : Sxs)
  | brk | cnt | pas
  | raise (c : Nat)
  | try (b : Sxs) (hs : Hds)
  /-- ghost: a container of a name is from here on never changed again -/
  | freeze (i : Nat)
inductive Sxs where
  | nil
  | cons (s : Sx) (ss : Sxs)
inductive Hds where
  | nil
  | cons (c : Nat) (as : Option Nat) (b : Sxs) (hs : Hds)
end

/-! ### values of expressions -/

/-- a container's content now -/
def ctOf (e : EV) (h : MH) : Option Ct := match e with
  | .v (.ref n) => (match h[n]? with
    | some (.ct c) => some c
    | _ => none)
  | .w c _ => some c
  | _ => none
/-- a list's or tuple's items -/
def seqOf (e : EV) (h : MH) : Option (List MV) := match e with
  | .v (.tup xs) => some xs
  | .v (.lst xs) => some xs
  | .v (.kl xs) => some xs
  | .v (.ref n) => (match h[n]? with
    | some (.ct (.lst xs)) => some xs
    | _ => none)
  | .w (.lst xs) _ => some xs
  | _ => none
def lstOf (e : EV) (h : MH) : Option (List MV) := match e with
  | .v (.tup _) => none
  | .v (.kl _) => none
  | e => seqOf e h

/-! ### equality of data -/
mutual
def dataOf (h : MH) : MV → Option PyData
  | .non => some .none
  | .bl b => some (.bool b)
  | .int i => some (.int i)
  | .str s => some (.str s)
  | .tup xs => (datasOf h xs).map .tuple
  | .lst xs => (datasOf h xs).map .list
  | _ => none
def datasOf (h : MH) : List MV → Option (List PyData)
  | [] => some []
  | x :: xs => (dataOf h x).bind fun d => (datasOf h xs).map fun ds => d :: ds
end
def dataE (e : EV) (h : MH) : Option PyData := match e with
  | .v (.ref n) => (match h[n]? with
    | some (.ct (.lst xs)) => (datasOf h xs).map .list
    | _ => none)
  | .v x => dataOf h x
  | .w (.lst xs) _ => (datasOf h xs).map .list
  | _ => none
def shapedB (d : PyData) : Bool := SeqAt.shaped d

/-! ### operators -/
def isFlat : MV → Bool
  | .non => true
  | .bl _ => true
  | .int _ => true
  | .str _ => true
  | _ => false
def flatEq : MV → MV → Bool
  | .non, .non => true
  | .bl a, .bl b => a == b
  | .bl a, .int b => (if a then 1 else 0) == b
  | .int a, .bl b => a == (if b then 1 else 0)
  | .int a, .int b => a == b
  | .str a, .str b => a == b
  | _, _ => false
def keyOf : MV → Option Key
  | .int i => some (.inl i)
  | .str s => some (.inr s)
  | _ => none
def findK {κ : Type} [DecidableEq κ] : List κ → List MV → κ → Option MV
  | k :: ks, v :: vs, j => if k = j then some v else findK ks vs j
  | _, _, _ => none
/-- a dict's keys and values (int and text keys) -/
def dctOf (e : EV) (h : MH) : Option (List Key × List MV) := match e with
  | .v (.dct ks vs) => some (ks, vs)
  | .v (.ref n) => (match h[n]? with
    | some (.ct (.dK ks vs)) => some (ks, vs)
    | some (.lk (.dK ks vs)) => some (ks, vs)
    | _ => none)
  | .w (.dK ks vs) _ => some (ks, vs)
  | _ => none
/-- a key that may be looked up there: a text where the dict may be the module's -/
def keyD (y : EV) (x : MV) : Option Key := match y with
  | .v (.dct _ _) => (match x with
    | .str s => some (.inr s)
    | _ => none)
  | _ => keyOf x
/-- a text n times -/
def repS (z : Str) (n : Int) : Str := ⟨(List.replicate n.toNat z.cps).foldl (· ++ ·) #[]⟩
def repOk (z : Str) (n : Int) : Bool := decide (n < 4096) && (decide (2 ≤ n) && (decide (z.length < 4096) && (decide (1 ≤ z.length) && decide ((repS z n).length ≤ sizeLine))))
def mulOk (i j : Int) : Bool := decide (-(2 ^ 64) < i ∧ i < 2 ^ 64) || decide (-(2 ^ 64) < j ∧ j < 2 ^ 64)
/-- x in y, a dict, a list, a tuple -/
def inDS (x y : EV) (h : MH) : Option Bool := match dctOf y h with
  | some (ks, vs) => (match x with
    | .v x => (keyD y x).map fun k => (findK ks vs k).isSome
    | _ => none)
  | none => (match seqOf y h with
    | some xs => (match x with
      | .v x => if isFlat x && xs.all isFlat then some (xs.any fun z => flatEq z x) else none
      | _ => none)
    | none => none)
/-- x in y -/
def inEv (x y : EV) (h : MH) : Option Bool := match y with
  | .v (.str z) => (match x with
    | .v (.str ⟨⟨[c]⟩⟩) => some (decide (c ∈ z.cps.toList))
    | _ => none)
  | y => inDS x y h
def ev2 (o : B2) (x y : EV) (h : MH) : Res MV := match o with
  | .eq => (match dataE x h, dataE y h with
    | some d, some e => if shapedB d && shapedB e then .ok (.bl (PyData.eqv d e)) h else .bad
    | _, _ => .bad)
  | .ne => (match dataE x h, dataE y h with
    | some d, some e => if shapedB d && shapedB e then .ok (.bl (!PyData.eqv d e)) h else .bad
    | _, _ => .bad)
  | .in => (match inEv x y h with
    | some k => .ok (.bl k) h
    | none => .bad)
  | .notin => (match inEv x y h with
    | some k => .ok (.bl !k) h
    | none => .bad)
  | .is => (match x, y with
    | .v x, .v .non => .ok (.bl (match x with | .non => true | _ => false)) h
    | .v (.bl a), .v (.bl b) => .ok (.bl (decide (a = b))) h
    | _, _ => .bad)
  | .isnot => (match x, y with
    | .v x, .v .non => .ok (.bl (match x with | .non => false | _ => true)) h
    | .v (.bl a), .v (.bl b) => .ok (.bl (!decide (a = b))) h
    | _, _ => .bad)
  | o => (match x, y with
    | .v (.int i), .v (.int j) => (match o with
      | .add => .ok (.int (i + j)) h
      | .sub => .ok (.int (i - j)) h
      | .mul => if mulOk i j then .ok (.int (i * j)) h else .bad
      | .mod => if 0 < j then .ok (.int (i % j)) h else .bad
      | .fdiv => if 0 < j ∧ j < 18446744073709551616 then .ok (.int (i / j)) h else .bad
      | .pow => if 0 ≤ j ∧ j ≤ 1000000 ∧ i.natAbs < 2 ^ 64 then .ok (.int (i ^ j.toNat)) h else .bad
      | .lt => .ok (.bl (decide (i < j))) h
      | .le => .ok (.bl (decide (i ≤ j))) h
      | .gt => .ok (.bl (decide (j < i))) h
      | .ge => .ok (.bl (decide (j ≤ i))) h
      | _ => .bad)
    | .v (.str i), .v (.str j) => (match o with
      | .add => if i.length + j.length ≤ sizeLine then .ok (.str (i ++ j)) h else .bad
      | .lt => .ok (.bl (decide (i.cps.toList < j.cps.toList))) h
      | .gt => .ok (.bl (decide (j.cps.toList < i.cps.toList))) h
      | _ => .bad)
    | .v (.str i), .v (.int j) => (match o with
      | .mul => if repOk i j then .ok (.str (repS i j)) h else .bad
      | _ => .bad)
    | .v (.tup xs), .v (.tup ys) => (match o with
      | .add => if xs.length + ys.length ≤ sizeLine then .ok (.tup (xs ++ ys)) h else .bad
      | _ => .bad)
    | _, _ => .bad)
/-- a truth value -/
def truth (e : EV) (h : MH) : Option Bool := match e with
  | .v (.bl b) => some b
  | .v .non => some false
  | .v (.int i) => some (i != 0)
  | .v (.str s) => if s.length ≤ sizeLine then some (s.length != 0) else none
  | e => (match seqOf e h with
    | some xs => some (!xs.isEmpty)
    | none => none)
def Res.bool (r : Res EV) : Res Bool := r.bind fun e h => match truth e h with
  | some b => .ok b h
  | none => .bad
/-- an item of a list, a tuple, a dict -/
def ixC (x : EV) (y : MV) (h : MH) : Res MV := match seqOf x h with
  | some xs => (match y with
    | .int i => (match atI xs i with
      | some v => .ok v h
      | none => .bad)
    | _ => .bad)
  | none => (match dctOf x h with
    | some (ks, vs) => (match (keyD x y).bind fun k => findK ks vs k with
      | some v => .ok v h
      | none => .bad)
    | none => .bad)
/-- an index -/
def evIx (x y : EV) (h : MH) : Res MV := match x, y with
  | .v (.str z), .v (.int i) => (match atI z.cps.toList i with
    | some c => if z.length ≤ sizeLine then .ok (.str ⟨#[c]⟩) h else .bad
    | none => .bad)
  | x, .v y => ixC x y h
  | _, _ => .bad
def cutM {α : Type} (xs : List α) (lo hi : Option Int) : List α := (xs.drop (HT.sIx xs.length 0 lo)).take (HT.sIx xs.length xs.length hi - HT.sIx xs.length 0 lo)
def evSl (x : EV) (lo hi : Option Int) (h : MH) : Res MV := match x with
  | .v (.str z) => if z.length ≤ sizeLine then .ok (.str (cutS z lo hi)) h else .bad
  | .v (.tup xs) => .ok (.tup (cutM xs lo hi)) h
  | _ => .bad
/-- a container's own kind of thing, for isinstance -/
inductive Kd where
  | non | bl | int | str | tup | lst | dct | ins (c : Nat) | exc (c : Nat)
  deriving DecidableEq
def kindOf (e : EV) (h : MH) : Option Kd := match e with
  | .v .non => some .non
  | .v (.bl _) => some .bl
  | .v (.int _) => some .int
  | .v (.str _) => some .str
  | .v (.tup _) => some .tup
  | .v (.lst _) => some .lst
  | .v (.dct _ _) => some .dct
  | .v (.ins c _ _) => some (.ins c)
  | .v (.ref n) => (match h[n]? with
    | some (.ct (.lst _)) => some .lst
    | some (.ct _) => some .dct
    | some (.ins c _) => some (.ins c)
    | _ => none)
  | .w (.lst _) _ => some .lst
  | .w _ _ => some .dct
  | _ => none
/-- the built-in type of such a thing -/
def kindTy : Kd → Option String
  | .non => some "NoneType" | .bl => some "bool" | .int => some "int" | .str => some "str" | .tup => some "tuple" | .lst => some "list" | .dct => some "dict"
  | _ => none
def tyIs (n t : String) : Option Bool := match t with
  | "int" => some (n == "int" || n == "bool")
  | "str" => some (n == "str")
  | "tuple" => some (n == "tuple")
  | "bool" => some (n == "bool")
  | "list" => some (n == "list")
  | "dict" => some (n == "dict")
  | _ => none
def intsOf : List MV → Option (List Int)
  | [] => some []
  | .int i :: r => (intsOf r).map (i :: ·)
  | _ => none
def strsOf : List MV → Option (List Str)
  | [] => some []
  | .str i :: r => (strsOf r).map (i :: ·)
  | _ => none
def lenOf (e : EV) (h : MH) : Option Nat := match e with
  | .v (.str z) => if z.length ≤ sizeLine then some z.length else none
  | e => (match seqOf e h with
    | some xs => some xs.length
    | none => (match ctOf e h with
      | some (.dK ks _) => some ks.length
      | _ => none))
/-- what the meaning of calls leans on -/
structure Tb where
  /-- a class's method, its __init__ -/
  meth : Nat → String → Option Nat
  init : Nat → Option Nat
  /-- is the name a plain field at an instance of the class? -/
  fld : Nat → String → Bool
  /-- is an instance (an exception) of the first class one of the second? -/
  sub : Nat → Nat → Option Bool
  /-- is an instance of the class one of the built-in type? -/
  isa : Nat → String → Option Bool
  /-- a class that no built-in thing is an instance of -/
  own : Nat → Bool
  /-- exceptions: is the first class one of the second? of the built-in class? may it be raised? -/
  exs : Nat → Nat → Option Bool
  /-- a class whose __iter__ hands out the iterator of a field -/
  iter : Nat → Option String
  exa : Nat → String → Option Bool
  rai : Nat → Bool
def excIs (T : Tb) (c : Nat) (v : MV) : Option Bool := match v with
  | .cls d => T.exs c d
  | .ty t => T.exa c t
  | _ => none
def isTy (T : Tb) (k : Kd) (t : String) : Option Bool := match k with
  | .ins c => T.isa c t
  | k => (kindTy k).bind fun n => tyIs n t
def isCl (T : Tb) (k : Kd) (d : Nat) : Option Bool := match k with
  | .ins c => T.sub c d
  | k => (kindTy k).bind fun _ => if T.own d then some false else none
def evIsi (T : Tb) (x y : EV) (h : MH) : Res MV := match y with
  | .v (.ty t) => (match (kindOf x h).bind fun k => isTy T k t with
    | some b => .ok (.bl b) h
    | none => .bad)
  | .v (.cls d) => (match (kindOf x h).bind fun k => isCl T k d with
    | some b => .ok (.bl b) h
    | none => .bad)
  | _ => .bad
def evLen (x : EV) (h : MH) : Res MV := match lenOf x h with
  | some n => .ok (.int n) h
  | none => .bad
def evOrd (x : EV) (h : MH) : Res MV := match x with
  | .v (.str s) => if s.length = 1 then .ok (.int ((s.cps.getD 0 0 : Nat) : Int)) h else .bad
  | _ => .bad
def evInt (x : EV) (h : MH) : Res MV := match x with
  | .v (.int i) => .ok (.int i) h
  | .v (.bl b) => .ok (.int (if b then 1 else 0)) h
  | .v (.str s) => (match PySem.intText? s with
    | some n => if s.length ≤ 640 then .ok (.int n) h else .bad
    | none => .bad)
  | _ => .bad
def evStr (x : EV) (h : MH) : Res MV := match x with
  | .v (.int i) => if i.natAbs.log2 < 1920 then .ok (.str (toString i : String)) h else .bad
  | .v (.str s) => .ok (.str s) h
  | _ => .bad
def evTup (x : EV) (h : MH) : Res MV := match x with
  | .v (.tup xs) => .ok (.tup xs) h
  | x => (match lstOf x h with
    | some xs => .ok (.tup xs) h
    | none => .bad)
def evMm (f : Int → Int → Int) (x y : EV) (h : MH) : Res MV := match x, y with
  | .v (.int i), .v (.int j) => .ok (.int (f i j)) h
  | _, _ => .bad
def evSum (x : EV) (h : MH) : Res MV := match (lstOf x h).bind intsOf with
  | some ns => .ok (.int ns.sum) h
  | none => .bad
def evBi (T : Tb) (b : Bi) (xs : List EV) (h : MH) : Res MV := match xs with
  | [x] => (match b with
    | .len => evLen x h
    | .ord => evOrd x h
    | .int => evInt x h
    | .str => evStr x h
    | .tuple => evTup x h
    | .sum => evSum x h
    | _ => .bad)
  | [x, y] => (match b with
    | .isinst => evIsi T x y h
    | .max => evMm (fun i j => if j > i then j else i) x y h
    | .min => evMm (fun i j => if j < i then j else i) x y h
    | _ => .bad)
  | _ => .bad
def evJoin (a : Str) (y : EV) (h : MH) : Res MV := match (seqOf y h).bind strsOf with
  | some ys => if (ys.map (·.length)).sum + ys.length * a.length ≤ 16777216 then .ok (.str (Txt.join a ys)) h else .bad
  | none => .bad

/-! ### the meaning -/
/-- a field -/
def getF (fs : List (String × Fd)) (f : String) : Option Fd := fs.lookup f
def putFd (f : String) (d : Fd) : List (String × Fd) → List (String × Fd)
  | [] => [(f, d)]
  | (g, e) :: r => if g = f then (g, d) :: r else (g, e) :: putFd f d r
def fldOf (T : Tb) (x : MV) (f : String) (h : MH) : Res EV := match x with
  | .ref n => (match h[n]? with
    | some (.ins c fs) => if T.fld c f then (match getF fs f with
      | some (.val v) => .ok (.v v) h
      | some (.own c) => .ok (.w c (.fld n f)) h
      | none => .bad) else .bad
    | _ => .bad)
  | .ins c fs vs => if T.fld c f then (match (fs.zip vs).lookup f with
    | some v => .ok (.v v) h
    | none => .bad) else .bad
  | _ => .bad
/-- the class of an instance that has no field of that name -/
def clsOf (x : MV) (m : String) (h : MH) : Option Nat := match x with
  | .ref n => (match h[n]? with
    | some (.ins c fs) => if (getF fs m).isNone then some c else none
    | _ => none)
  | .ins c fs vs => if ((fs.zip vs).lookup m).isNone then some c else none
  | _ => none
/-- names of a block are forgotten -/
def wipeM (σ : ML) : List Nat → ML
  | [] => σ
  | v :: vs => (wipeM σ vs).set v .un
def setAll (σ : ML) : List Nat → List MV → Option ML
  | [], [] => some σ
  | i :: is, v :: vs => setAll (σ.set i (.val v)) is vs
  | _, _ => none
def asg (x : Tg) (v : MV) (σ : ML) : Option ML := match x with
  | .var i => some (σ.set i (.val v))
  | .tup is => (match v with
    | .tup vs => setAll σ is vs
    | _ => none)
def Tg.own : Tg → List Nat
  | .var i => [i]
  | .tup is => is
/-- the cell that is walked is as it was -/
def still (w : Option Nat) (xs : List MV) (h : MH) : Bool := match w with
  | none => true
  | some n => decide (h[n]? = some (.ct (.lst xs)))
/-- what is walked: the items, the cell (none if it never changes) -/
def overOf (e : EV) (h : MH) : Option (List MV × Option Nat) := match e with
  | .v (.tup xs) => some (xs, none)
  | .v (.lst xs) => some (xs, none)
  | .v (.kl xs) => some (xs, none)
  | .v (.ref n) => (match h[n]? with
    | some (.ct (.lst xs)) => some (xs, some n)
    | _ => none)
  | _ => none
/-- a dict that is walked -/
def Dw.its : Dw → Bool
  | .items _ => true
  | _ => false
def keyMV : Key → MV
  | .inl i => .int i
  | .inr s => .str s
def itemsK (its : Bool) (ks : List Key) (vs : List MV) : List MV := if its then (ks.zip vs).map fun p => .tup [keyMV p.1, p.2] else ks.map keyMV
/-- a cell's number, found while nothing changes -/
def refAt (r : Res EV) (h : MH) : Option Nat := match r with
  | .ok (.v (.ref n)) h1 => if h1 = h then some n else none
  | _ => none
/-- .. of the field that an own __iter__ walks -/
def ownAt (T : Tb) (r : Res EV) (h : MH) : Option Nat := match r with
  | .ok (.v x) h1 => if h1 = h then (match (clsOf x "__iter__" h).bind T.iter with
    | some F => refAt (fldOf T x F h) h
    | none => none) else none
  | _ => none
/-- what was walked is let go -/
def unlF (n : Nat) (c : Ct) (r : Res (List MV)) : Res Ct := r.bind fun xs h => if h[n]? = some (.lk c) then .ok (.lst xs) (h.set n (.ct c)) else .bad
def rangeL (lo : Int) (n : Nat) : List MV := (List.range n).map fun (i : Nat) => .int (lo + i)

section
variable (T : Tb) (call : Nat → List MV → MH → Res MV)
/-- the turns of a comprehension -/
def compL (tst : ML → MH → Res Bool) (elt : ML → MH → Res MV) (x : Tg) (w : Option Nat) (ws : List MV) (σ : ML) : List MV → List MV → MH → Res (List MV)
  | [], acc, h => .ok acc h
  | v :: r, acc, h => match asg x v σ with
    | none => .bad
    | some σ1 => match tst σ1 h with
      | .ok true h1 => (match elt σ1 h1 with
        | .ok y h2 => if acc.length < sizeLine ∧ still w ws h2 = true then compL tst elt x w ws σ r (acc ++ [y]) h2 else .bad
        | _ => .bad)
      | .ok false h1 => if still w ws h1 = true then compL tst elt x w ws σ r acc h1 else .bad
      | _ => .bad
mutual
def den : Ex → EE
  | .var i => fun σ h => match σ[i]? with
    | some (.val x) => .ok (.v x) h
    | some (.own c) => .ok (.w c (.loc i)) h
    | some (.exc c) => .ok (.x c) h
    | _ => .bad
  | .non => fun _ h => .ok (.v .non) h
  | .bl k => fun _ h => .ok (.v (.bl k)) h
  | .int i => fun _ h => .ok (.v (.int i)) h
  | .str s => fun _ h => .ok (.v (.str s)) h
  | .gl _ v => fun _ h => .ok (.v v) h
  | .op o a b => fun σ h => (den a σ h).bind fun x h1 => (den b σ h1).bind fun y h2 => (ev2 o x y h2).bind fun z h3 => .ok (.v z) h3
  | .neg a => fun σ h => (den a σ h).vb fun x h1 => match x with
    | .int i => .ok (.v (.int (-i))) h1
    | _ => .bad
  | .not a => fun σ h => (den a σ h).bool.bind fun k h1 => .ok (.v (.bl !k)) h1
  | .chain o o' a b c => fun σ h => (den a σ h).bind fun x h1 => (den b σ h1).bind fun y h2 => (ev2 o x y h2).bind fun z h3 => match z with
    | .bl true => (den c σ h3).bind fun u h4 => (ev2 o' y u h4).bind fun z h5 => .ok (.v z) h5
    | .bl false => .ok (.v (.bl false)) h3
    | _ => .bad
  | .ife c a b => fun σ h => (den c σ h).bool.bind fun k h1 => if k then den a σ h1 else den b σ h1
  | .and es => denAnd es
  | .or es => denOr es
  | .tup es => fun σ h => (dens es σ h).bind fun xs h1 => if xs.length ≤ sizeLine then .ok (.v (.tup xs)) h1 else .bad
  | .fz c => fun σ h => (denF c σ h).bind fun c h1 => match c with
    | .lst xs => .ok (.v (.lst xs)) h1
    | .dK ks vs => .ok (.v (.dct ks vs)) h1
    | _ => .bad
  | .cl c => fun σ h => (denF c σ h).bind fun c h1 => .ok (.v (.ref h1.length)) (h1 ++ [.ct c])
  | .fld a f => fun σ h => (den a σ h).vb fun x h1 => fldOf T x f h1
  | .ix a b => fun σ h => (den a σ h).bind fun x h1 => (den b σ h1).bind fun y h2 => (evIx x y h2).bind fun z h3 => .ok (.v z) h3
  | .sl a lo hi => fun σ h => (den a σ h).bind fun x h1 => (denO lo σ h1).bind fun i h2 => (denO hi σ h2).bind fun j h3 => (evSl x i j h3).bind fun z h4 => .ok (.v z) h4
  | .call f es => fun σ h => (dens es σ h).bind fun xs h1 => (call f xs h1).bind fun z h2 => .ok (.v z) h2
  | .meth a m es => fun σ h => (den a σ h).vb fun x h1 => match (clsOf x m h1).bind fun c => T.meth c m with
    | some f => (dens es σ h1).bind fun xs h2 => (call f (x :: xs) h2).bind fun z h3 => .ok (.v z) h3
    | none => .bad
  | .make c es => fun σ h => (dens es σ h).bind fun xs h1 => match T.init c with
    | some f => (call f (.ref h1.length :: xs) (h1 ++ [.ins c []])).bind fun z h2 => (match z with
      | .non => .ok (.v (.ref h1.length)) h2
      | _ => .bad)
    | none => .bad
  | .bi b es => fun σ h => (denE es σ h).bind fun xs h1 => (evBi T b xs h1).bind fun z h2 => .ok (.v z) h2
  | .join a b => fun σ h => (den a σ h).vb fun x h1 => match x with
    | .str s => (den b σ h1).bind fun y h2 => (evJoin s y h2).bind fun z h3 => .ok (.v z) h3
    | _ => .bad
  | .isx i _ v => fun σ h => match σ[i]? with
    | some (.exc c) => (match excIs T c v with
      | some b => .ok (.v (.bl b)) h
      | none => .bad)
    | _ => .bad
  | .lenO a => fun σ h => (den a σ h).vb fun x h1 => match (clsOf x "__len__" h1).bind fun c => T.meth c "__len__" with
    | some f => (call f [x] h1).bind fun z h2 => (match z with
      | .int i => if 0 ≤ i ∧ i < 2 ^ 62 then .ok (.v (.int i)) h2 else .bad
      | _ => .bad)
    | none => .bad
/-- all but the last a truth value -/
def denAnd : Exs → EE
  | .nil => fun _ _ => .bad
  | .cons e .nil => den e
  | .cons e es => fun σ h => (den e σ h).vb fun x h1 => match x with
    | .bl true => denAnd es σ h1
    | .bl false => .ok (.v (.bl false)) h1
    | _ => .bad
def denOr : Exs → EE
  | .nil => fun _ _ => .bad
  | .cons e .nil => den e
  | .cons e es => fun σ h => (den e σ h).vb fun x h1 => match x with
    | .bl false => denOr es σ h1
    | .bl true => .ok (.v (.bl true)) h1
    | _ => .bad
/-- values -/
def dens : Exs → ML → MH → Res (List MV)
  | .nil => fun _ h => .ok [] h
  | .cons e es => fun σ h => (den e σ h).vb fun x h1 => (dens es σ h1).bind fun xs h2 => .ok (x :: xs) h2
/-- values or containers -/
def denE : Exs → ML → MH → Res (List EV)
  | .nil => fun _ h => .ok [] h
  | .cons e es => fun σ h => (den e σ h).bind fun x h1 => (denE es σ h1).bind fun xs h2 => .ok (x :: xs) h2
def denO : Exo → ML → MH → Res (Option Int)
  | .no => fun _ h => .ok none h
  | .yes e => fun σ h => (den e σ h).vb fun x h1 => match x with
    | .int i => .ok (some i) h1
    | _ => .bad
def denF : Fx → ML → MH → Res Ct
  | .lst es => fun σ h => (dens es σ h).bind fun xs h1 => if xs.length ≤ sizeLine then .ok (.lst xs) h1 else .bad
  | .dnew => fun _ h => .ok (.dK [] []) h
  | .cat a b => fun σ h => (den a σ h).bind fun x h1 => (den b σ h1).bind fun y h2 => match lstOf x h2, lstOf y h2 with
    | some xs, some ys => if xs.length + ys.length ≤ sizeLine then .ok (.lst (xs ++ ys)) h2 else .bad
    | _, _ => .bad
  | .slc a lo hi => fun σ h => (den a σ h).bind fun x h1 => (denO lo σ h1).bind fun i h2 => (denO hi σ h2).bind fun j h3 => match lstOf x h3 with
    | some xs => .ok (.lst (cutM xs i j)) h3
    | none => .bad
  | .list a => fun σ h => (den a σ h).bind fun x h1 => match seqOf x h1 with
    | some xs => .ok (.lst xs) h1
    | none => .bad
  | .listD a => fun σ h => (den a σ h).bind fun x h1 => match ctOf x h1 with
    | some (.dK ks _) => .ok (.lst (ks.map keyMV)) h1
    | _ => .bad
  | .compK x d c e => fun σ h => match denK d σ h with
    | some n => (match h[n]? with
      | some (.ct (.dK ks vs)) => if denK d σ (h.set n (.lk (.dK ks vs))) = some n then
          unlF n (.dK ks vs) (compL (denC c) (fun σ h => (den e σ h).vl) x none (itemsK d.its ks vs) (wipeM σ x.own) (itemsK d.its ks vs) [] (h.set n (.lk (.dK ks vs)))) else .bad
      | _ => .bad)
    | none => .bad
  | .split a b => fun σ h => (den a σ h).vb fun x h1 => match x with
    | .str s => (den b σ h1).vb fun y h2 => (match y with
      | .str t => if (t.length == 0) = false ∧ s.length + 2 ≤ sizeLine then .ok (.lst ((Txt.split s t).map .str)) h2 else .bad
      | _ => .bad)
    | _ => .bad
  | .comp x it c e => fun σ h => (denI it σ h).bind fun iw h1 => (compL (denC c) (fun σ h => (den e σ h).vl) x iw.2 iw.1 (wipeM σ x.own) iw.1 [] h1).bind fun xs h2 => .ok (.lst xs) h2
def denC : Exo → ML → MH → Res Bool
  | .no => fun _ h => .ok true h
  | .yes e => fun σ h => (den e σ h).bool
def denK : Dw → ML → MH → Option Nat
  | .keys a => fun σ h => refAt (den a σ h) h
  | .items a => fun σ h => refAt (den a σ h) h
  | .own a => fun σ h => ownAt T (den a σ h) h
def denI : Ite → ML → MH → Res (List MV × Option Nat)
  | .over a => fun σ h => (den a σ h).bind fun x h1 => match overOf x h1 with
    | some r => .ok r h1
    | none => .bad
  | .range1 a => fun σ h => (den a σ h).vb fun x h1 => match x with
    | .int n => if -(2 ^ 62) ≤ n ∧ n < 2 ^ 62 then .ok (rangeL 0 n.toNat, none) h1 else .bad
    | _ => .bad
  | .range2 a b => fun σ h => (den a σ h).vb fun x h1 => (den b σ h1).vb fun y h2 => match x, y with
    | .int lo, .int hi => if (-(2 ^ 62) ≤ lo ∧ lo < 2 ^ 62) ∧ (-(2 ^ 62) ≤ hi ∧ hi < 2 ^ 62) then .ok (rangeL lo (hi - lo).toNat, none) h2 else .bad
    | _, _ => .bad
  | .text a => fun σ h => (den a σ h).vb fun x h1 => match x with
    | .str z => .ok (z.cps.toList.map fun c => .str ⟨#[c]⟩, none) h1
    | _ => .bad
  | .own a => fun σ h => (den a σ h).vb fun x h1 => match (clsOf x "__iter__" h1).bind T.iter with
    | some F => (fldOf T x F h1).bind fun y h2 => (match overOf y h2 with
      | some r => .ok r h2
      | none => .bad)
    | none => .bad
  | .zip a b => fun σ h => (den a σ h).vb fun x h1 => (den b σ h1).vb fun y h2 => match x, y with
    | .tup xs, .tup ys => .ok ((xs.zip ys).map fun p => .tup [p.1, p.2], none) h2
    | _, _ => .bad
end
end

/-! ### statements -/
inductive SO where
  | nx (σ : ML) (h : MH)
  | rt (v : MV) (h : MH)
  | bk (σ : ML) (h : MH)
  | ct (σ : ML) (h : MH)
  | exc (c : Nat) (σ : ML) (h : MH)
  | bad
/-- an expression's result in a statement -/
def Res.go {α : Type} (r : Res α) (σ : ML) (f : α → MH → SO) : SO := match r with
  | .ok a h => f a h
  | .exc c h => .exc c σ h
  | .bad => .bad
def SO.seq (r : SO) (f : ML → MH → SO) : SO := match r with
  | .nx σ h => f σ h
  | r => r
@[simp] theorem go_ok {α : Type} (a : α) (h : MH) (σ : ML) (f : α → MH → SO) : (Res.ok a h).go σ f = f a h := rfl
@[simp] theorem go_exc {α : Type} (c : Nat) (h : MH) (σ : ML) (f : α → MH → SO) : (Res.exc c h : Res α).go σ f = .exc c σ h := rfl
@[simp] theorem go_bad {α : Type} (σ : ML) (f : α → MH → SO) : (Res.bad : Res α).go σ f = .bad := rfl
@[simp] theorem seq_nx (σ : ML) (h : MH) (f : ML → MH → SO) : (SO.nx σ h).seq f = f σ h := rfl
@[simp] theorem seq_rt (v : MV) (h : MH) (f : ML → MH → SO) : (SO.rt v h).seq f = .rt v h := rfl
@[simp] theorem seq_bk (σ : ML) (h : MH) (f : ML → MH → SO) : (SO.bk σ h).seq f = .bk σ h := rfl
@[simp] theorem seq_ct (σ : ML) (h : MH) (f : ML → MH → SO) : (SO.ct σ h).seq f = .ct σ h := rfl
@[simp] theorem seq_exc (c : Nat) (σ : ML) (h : MH) (f : ML → MH → SO) : (SO.exc c σ h).seq f = .exc c σ h := rfl
@[simp] theorem seq_bad (f : ML → MH → SO) : SO.bad.seq f = .bad := rfl

/-- a container's new content is put into its place -/
def putPl (e : EV) (c : Ct) (σ : ML) (h : MH) : SO := match e with
  | .v (.ref n) => (match h[n]? with
    | some (.ct _) => .nx σ (h.set n (.ct c))
    | _ => .bad)
  | .w _ (.loc i) => (match σ[i]? with
    | some (.own _) => .nx (σ.set i (.own c)) h
    | _ => .bad)
  | _ => .bad
def putK2 {κ : Type} [DecidableEq κ] (k : κ) (v : MV) (ks : List κ) (vs : List MV) : List κ × List MV :=
  if k ∈ ks then (ks, (ks.zip vs).map fun p => if p.1 = k then v else p.2) else (ks ++ [k], vs ++ [v])
def dropK2 {κ : Type} [DecidableEq κ] (k : κ) (ks : List κ) (vs : List MV) : List κ × List MV :=
  (ks.filter fun j => decide (j ≠ k), ((ks.zip vs).filter fun p => decide (p.1 ≠ k)).map fun p => p.2)
def keysOf : List MV → Option (List Key)
  | [] => some []
  | x :: r => (keyOf x).bind fun k => (keysOf r).map (k :: ·)
/-- c[y] = v -/
def setCt (c : Ct) (y v : MV) : Option Ct := match c with
  | .lst xs => (match y with
    | .int i => (ixN xs.length i).map fun j => .lst (xs.set j v)
    | _ => none)
  | .dK ks vs => (keyOf y).bind fun k => if ks.length < sizeLine then some (.dK (putK2 k v ks vs).1 (putK2 k v ks vs).2) else none
  | .dT ks vs => none
/-- del c[y] -/
def delCt (c : Ct) (y : MV) : Option Ct := match c with
  | .dK ks vs => (keyOf y).bind fun k => (findK ks vs k).map fun _ => .dK (dropK2 k ks vs).1 (dropK2 k ks vs).2
  | _ => none
def mutCt (m : Mu) (c : Ct) (y : EV) (h : MH) : Option Ct := match m, c with
  | .append, .lst xs => (match y with
    | .v y => if xs.length < sizeLine then some (.lst (xs ++ [y])) else none
    | _ => none)
  | .extend, .lst xs => (match lstOf y h with
    | some ys => if xs.length + ys.length ≤ sizeLine then some (.lst (xs ++ ys)) else none
    | none => none)
  | _, _ => none
/-- a flat value in a field, with the instance's class -/
def flatAt (T : Tb) (x : MV) (f : String) (h : MH) : Option (Nat × MV) := match x with
  | .ref n => (match h[n]? with
    | some (.ins c fs) => if T.fld c f then (match getF fs f with
      | some (.val y) => if isFlat y then some (c, y) else none
      | _ => none) else none
    | _ => none)
  | _ => none
def clsAt (x : MV) (h : MH) : Option Nat := match x with
  | .ref n => (match h[n]? with
    | some (.ins c _) => some c
    | _ => none)
  | _ => none
def setFd (T : Tb) (x : MV) (f : String) (d : Fd) (σ : ML) (h : MH) : SO := match x with
  | .ref n => (match h[n]? with
    | some (.ins c fs) => if T.fld c f = true ∧ fs.length < 1000 then .nx σ (h.set n (.ins c (putFd f d fs))) else .bad
    | _ => .bad)
  | _ => .bad

/-- no name holds an exception -/
def noX (σ : ML) : ML := σ.map fun v => match v with
  | .exc _ => .un
  | v => v
section
variable (T : Tb) (call : Nat → List MV → MH → Res MV) (W : Nat)
def forL (x : Tg) (w : Option Nat) (ws : List MV) (body : ML → MH → SO) : List MV → ML → MH → SO
  | [], σ, h => .nx σ h
  | v :: r, σ, h => match asg x v σ with
    | none => .bad
    | some σ1 => match body σ1 h with
      | .nx σ2 h2 => if still w ws h2 then forL x w ws body r σ2 h2 else .bad
      | .ct σ2 h2 => if still w ws h2 then forL x w ws body r σ2 h2 else .bad
      | .bk σ2 h2 => .nx σ2 h2
      | o => o
def whiL (c : ML → MH → Res Bool) (body : ML → MH → SO) : Nat → ML → MH → SO
  | 0, _, _ => .bad
  | n + 1, σ, h => (c σ h).go σ fun k h1 => if k then (match body σ h1 with
    | .nx σ2 h2 => whiL c body n σ2 h2
    | .ct σ2 h2 => whiL c body n σ2 h2
    | .bk σ2 h2 => .nx σ2 h2
    | o => o) else .nx σ h1
/-- what was walked is let go -/
def unlS (n : Nat) (c : Ct) (r : SO) : SO := match r with
  | .nx σ h => if h[n]? = some (.lk c) then .nx σ (h.set n (.ct c)) else .bad
  | .rt v h => if h[n]? = some (.lk c) then .rt v (h.set n (.ct c)) else .bad
  | _ => .bad
def freezeM (i : Nat) (σ : ML) : Option ML := match σ[i]? with
  | some (.own (.lst xs)) => some (σ.set i (.val (.lst xs)))
  | some (.own (.dK ks vs)) => some (σ.set i (.val (.dct ks vs)))
  | _ => none
mutual
def exec : Sx → ML → MH → SO
  | .set i e => fun σ h => (den T call e σ h).vl.go σ fun v h1 => if i < σ.length then .nx (σ.set i (.val v)) h1 else .bad
  | .setOwn i c => fun σ h => (denF T call c σ h).go σ fun c h1 => if i < σ.length then .nx (σ.set i (.own c)) h1 else .bad
  | .unp is e => fun σ h => (den T call e σ h).go σ fun x h1 => match x with
    | .v (.tup vs) => (match setAll σ is vs with
      | some σ1 => .nx σ1 h1
      | none => .bad)
    | _ => .bad
  | .setFld a f e => fun σ h => (den T call e σ h).vl.go σ fun v h1 => (den T call a σ h1).vl.go σ fun x h2 => setFd T x f (.val v) σ h2
  | .aug i o e => fun σ h => match σ[i]? with
    | some (.val x) => if isFlat x then (den T call e σ h).vl.go σ fun y h1 => (ev2 o (.v x) (.v y) h1).go σ fun v h2 => .nx (σ.set i (.val v)) h2 else .bad
    | _ => .bad
  | .augFld a f o e => fun σ h => (den T call a σ h).vl.go σ fun x h1 => match flatAt T x f h1 with
    | some (c, y) => (den T call e σ h1).vl.go σ fun z h3 => (ev2 o (.v y) (.v z) h3).go σ fun v h4 => if clsAt x h4 = some c then setFd T x f (.val v) σ h4 else .bad
    | none => .bad
  | .setIx a b e => fun σ h => (den T call e σ h).vl.go σ fun v h1 => (den T call a σ h1).go σ fun x h2 => (den T call b σ h2).vl.go σ fun y h3 => match (ctOf x h3).bind fun c => setCt c y v with
    | some c => putPl x c σ h3
    | none => .bad
  | .delIx a b => fun σ h => (den T call a σ h).go σ fun x h1 => (den T call b σ h1).vl.go σ fun y h2 => match (ctOf x h2).bind fun c => delCt c y with
    | some c => putPl x c σ h2
    | none => .bad
  | .mut m a e => fun σ h => (den T call a σ h).go σ fun x h1 => match ctOf x h1 with
    | some (.lst _) => (den T call e σ h1).go σ fun y h2 => (match (ctOf x h2).bind fun c => mutCt m c y h2 with
      | some c => putPl x c σ h2
      | none => .bad)
    | _ => .bad
  | .exp e => fun σ h => (den T call e σ h).go σ fun _ h1 => .nx σ h1
  | .ret e => fun σ h => (den T call e σ h).vl.go σ fun v h1 => .rt v h1
  | .retN => fun _ h => .rt .non h
  | .ite c t e => fun σ h => (den T call c σ h).bool.go σ fun k h1 => if k then execs t σ h1 else execs e σ h1
  | .for x it b => fun σ h => (denI T call it σ h).go σ fun iw h1 => forL x iw.2 iw.1 (execs b) iw.1 σ h1
  | .forK x d b => fun σ h => match denK T call d σ h with
    | some n => (match h[n]? with
      | some (.ct (.dK ks vs)) => if denK T call d σ (h.set n (.lk (.dK ks vs))) = some n then
          unlS n (.dK ks vs) (forL x none (itemsK d.its ks vs) (execs b) (itemsK d.its ks vs) σ (h.set n (.lk (.dK ks vs)))) else .bad
      | _ => .bad)
    | none => .bad
  | .never => fun _ _ => .bad
  | .whil c b => fun σ h => whiL (fun σ h => (den T call c σ h).bool) (execs b) W σ h
  | .brk => fun σ h => .bk σ h
  | .cnt => fun σ h => .ct σ h
  | .pas => fun σ h => .nx σ h
  | .raise c => fun σ h => .exc c σ h
  | .try b hs => fun σ h => match execs b σ h with
    | .exc c σ1 h1 => handle c hs σ1 h1
    | o => o
  | .freeze i => fun σ h => match freezeM i σ with
    | some σ1 => .nx σ1 h
    | none => .bad
def execs : Sxs → ML → MH → SO
  | .nil => fun σ h => .nx σ h
  | .cons s ss => fun σ h => (exec s σ h).seq (execs ss)
/-- the exception c meets the clauses -/
def handle (c : Nat) : Hds → ML → MH → SO
  | .nil => fun σ h => .exc c σ h
  | .cons d as b hs => fun σ h => match T.exs c d with
    | some true => (match as with
      | some i => (match execs b ((noX σ).set i (.exc c)) h with
        | .nx σ1 h1 => .nx (noX (σ1.set i .un)) h1
        | .bk σ1 h1 => .bk (noX (σ1.set i .un)) h1
        | .ct σ1 h1 => .ct (noX (σ1.set i .un)) h1
        | .rt v h1 => .rt v h1
        | _ => .bad)
      | none => (match execs b σ h with
        | .exc _ _ _ => .bad
        | o => o))
    | some false => handle c hs σ h
    | none => .bad
end
end

/-! ### defs -/
structure Df where
  /-- how many names, how many parameters -/
  n : Nat
  k : Nat
  body : Sxs
  /-- the result is a fresh object: handed back as a thing that is never changed again -/
  fz : Bool
mutual
/-- all cells that a value names are below n -/
def MV.lt (n : Nat) : MV → Bool
  | .tup xs => MV.lts n xs
  | .lst xs => MV.lts n xs
  | .kl xs => MV.lts n xs
  | .dct _ xs => MV.lts n xs
  | .ins _ _ xs => MV.lts n xs
  | .ref m => decide (m < n)
  | _ => true
def MV.lts (n : Nat) : List MV → Bool
  | [] => true
  | x :: xs => MV.lt n x && MV.lts n xs
end
def valsF : List (String × Fd) → Option (List String × List MV)
  | [] => some ([], [])
  | (f, .val v) :: r => (valsF r).map fun p => (f :: p.1, v :: p.2)
  | _ => none
/-- the one new cell, as a thing that is never changed again -/
def frzTop (h0 : MH) (h1 : MH) : Option MV := match h1[h0.length]? with
  | some c => if h1 = h0 ++ [c] then (match c with
    | .ct (.lst xs) => if MV.lts h0.length xs then some (.lst xs) else none
    | .ins c fs => (match valsF fs with
      | some (ks, vs) => if MV.lts h0.length vs then some (.ins c ks vs) else none
      | none => none)
    | _ => none) else none
  | none => none
def callF (T : Tb) (W : Nat) (fns : Nat → Option Df) : Nat → Nat → List MV → MH → Res MV
  | 0 => fun _ _ _ => .bad
  | n + 1 => fun f xs h => match fns f with
    | none => .bad
    | some d => if xs.length = d.k then (match execs T (callF T W fns n) W d.body (xs.map .val ++ List.replicate (d.n - d.k) .un) h with
      | .nx _ h1 => .ok .non h1
      | .rt v h1 => if d.fz then (match v with
        | .ref m => if m = h.length then (match frzTop h h1 with
          | some v => .ok v h
          | none => .bad) else .bad
        | _ => .bad) else .ok v h1
      | .exc c _ h1 => .exc c h1
      | _ => .bad) else .bad
end MP
set_option Elab.async false
set_option linter.all false
set_option autoImplicit false
set_option maxRecDepth 100000
set_option maxHeartbeats 2000000
/-! MP, part d: how laid-out heaps grow and change. -/
namespace MP
open PySem PySem.Spec L2

def Lay.addF (L : Lay) (p : Addr) (o : HO) : Lay := { L with fz := upd L.fz p o }
def Lay.addC (L : Lay) (n : Nat) (p : Addr) : Lay := { L with al := fun m => if m = n then some p else L.al m }
def Lay.addO (L : Lay) (n : Nat) (f : String) (p : Addr) : Lay := { L with ow := fun m g => if m = n ∧ g = f then some p else L.ow m g }

section
variable {G : Gb} {L L' : Lay} {b b' n : Nat} {h : MH} {H H' : Hp}
theorem FdR.keep (x : Ext b L b' L') (ow : ∀ f a, L.ow n f = some a → L'.ow n f = some a) (k : ∀ f a o, L.ow n f = some a → H a = some o → H' a = some o) {f : String} : ∀ {d : Fd} {v : V}, FdR G L b H n f d v → FdR G L' b' H' n f d v
  | .val _, _, r => VR.mono x r
  | .own _, _, ⟨a, o, e, w, e2, r⟩ => ⟨a, o, e, ow f a w, k f a o w e2, r.mono x⟩
theorem FdsR.keep (x : Ext b L b' L') (ow : ∀ f a, L.ow n f = some a → L'.ow n f = some a) (k : ∀ f a o, L.ow n f = some a → H a = some o → H' a = some o) : ∀ {fs : List (String × Fd)} {ys : List (Str × V)}, FdsR G L b H n fs ys → FdsR G L' b' H' n fs ys
  | _, _, .nil => .nil
  | _, _, .cons r t => .cons (FdR.keep x ow k r) (FdsR.keep x ow k t)
theorem CellR.keep (x : Ext b L b' L') (ow : ∀ f a, L.ow n f = some a → L'.ow n f = some a) (k : ∀ f a o, L.ow n f = some a → H a = some o → H' a = some o) {c : Cell} {o : HO} (r : CellR G L b H n c o) : CellR G L' b' H' n c o := by
  cases r with
  | ins r => exact .ins (r.keep x ow k)
  | ct r => exact .ct (r.mono x)
  | lk r => exact .lk (r.mono x)
theorem FdsR.length {fs : List (String × Fd)} {ys : List (Str × V)} (r : FdsR G L b H n fs ys) : fs.length = ys.length := by
  induction r with
  | nil => rfl
  | cons _ _ ih => simp [ih]
theorem held_some (r : HR G L h H) {a : Addr} (z : Held L a) : (H a).isSome = true := by
  rcases z with ⟨n, e⟩ | ⟨n, f, e⟩
  · exact r.alive n a e
  · exact r.olive n f a e
theorem free_of {p : Addr} (hp : H p = none) {a : Addr} (e : (H a).isSome = true) : a ≠ p := by
  rintro rfl
  rw [hp] at e; cases e

/-- a new thing that never changes again -/
theorem HR.addF (r : HR G L h H) {p : Addr} {o : HO} (hp : H p = none) : HR G (L.addF p o) h (upd H p o) := by
  have ne : ∀ {a : Addr}, (H a).isSome = true → a ≠ p := fun e => free_of hp e
  refine ⟨fun a u e => ?_, fun n a e => ?_, fun n f a e => ?_, r.aa, r.oo, r.ao, fun n a e => ?_, fun n f a e => ?_, fun n c e => ?_⟩
  · by_cases ha : a = p
    · subst ha; rw [upd_same]; exact (show upd L.fz a o a = some u from e).symm ▸ (upd_same (H := L.fz)).symm
    · rw [upd_ne ha]; exact r.fz a u ((upd_ne ha).symm.trans e)
  · rw [upd_ne (ne (r.alive n a e))]; exact r.alive n a e
  · rw [upd_ne (ne (r.olive n f a e))]; exact r.olive n f a e
  · exact (upd_ne (ne (r.alive n a e))).trans (r.af n a e)
  · exact (upd_ne (ne (r.olive n f a e))).trans (r.of n f a e)
  · obtain ⟨a, u, e1, e2, e3⟩ := r.cell n c e
    have x : Ext h.length L h.length (L.addF p o) := ⟨Nat.le_refl _, fun _ _ _ z => z, fun a u e => by
      rw [show (L.addF p o).fz = upd L.fz p o from rfl, upd_ne (ne (by rw [r.fz a u e]; rfl))]; exact e⟩
    refine ⟨a, u, e1, by rw [upd_ne (ne (r.alive n a e1))]; exact e2, e3.keep x (fun _ _ z => z) fun f a u w z => ?_⟩
    rw [upd_ne (ne (by rw [z]; rfl))]; exact z
theorem step_fz (q : Bool) (r : HR G L h H) {p : Addr} {o : HO} (hp : H p = none) : Step G q L h H (L.addF p o) h (upd H p o) := by
  have ne : ∀ {a : Addr}, (H a).isSome = true → a ≠ p := fun e => free_of hp e
  refine ⟨⟨Nat.le_refl _, fun _ _ _ z => z, fun a u e => ?_⟩, r.addF hp, fun a u e _ => ?_, fun a e => ?_, fun a _ z => z, fun a e z => ?_, fun _ => ⟨fun a u e => ?_, rfl⟩, fun _ _ e => ⟨e, fun a al => upd_ne (ne (r.alive _ a al))⟩⟩
  · rw [show (L.addF p o).fz = upd L.fz p o from rfl, upd_ne (ne (by rw [r.fz a u e]; rfl))]; exact e
  · rw [upd_ne (ne (by rw [e]; rfl))]; exact e
  · rw [upd_ne (ne e)]; exact e
  · rw [show (L.addF p o).fz = upd L.fz p o from rfl, upd_ne (ne e)] at z; exact .inl z
  · rw [upd_ne (ne (by rw [e]; rfl))]; exact e
/-- a new thing that is not looked at -/
theorem step_new (q : Bool) (r : HR G L h H) {p : Addr} {o : HO} (hp : H p = none) : Step G q L h H L h (upd H p o) := by
  have ne : ∀ {a : Addr}, (H a).isSome = true → a ≠ p := fun e => free_of hp e
  refine ⟨.refl, ⟨fun a u e => ?_, fun n a e => ?_, fun n f a e => ?_, r.aa, r.oo, r.ao, r.af, r.of, fun n c e => ?_⟩, fun a u e _ => ?_, fun a e => ?_, fun a _ z => z, fun a e z => .inl z, fun _ => ⟨fun a u e => ?_, rfl⟩, fun _ _ e => ⟨e, fun a al => upd_ne (ne (r.alive _ a al))⟩⟩
  · rw [upd_ne (ne (by rw [r.fz a u e]; rfl))]; exact r.fz a u e
  · rw [upd_ne (ne (r.alive n a e))]; exact r.alive n a e
  · rw [upd_ne (ne (r.olive n f a e))]; exact r.olive n f a e
  · obtain ⟨a, u, e1, e2, e3⟩ := r.cell n c e
    refine ⟨a, u, e1, by rw [upd_ne (ne (r.alive n a e1))]; exact e2, e3.keep .refl (fun _ _ z => z) fun f a u w z => ?_⟩
    rw [upd_ne (ne (by rw [z]; rfl))]; exact z
  · rw [upd_ne (ne (by rw [e]; rfl))]; exact e
  · rw [upd_ne (ne e)]; exact e
  · rw [upd_ne (ne (by rw [e]; rfl))]; exact e
theorem addF_at {p : Addr} {o : HO} : (L.addF p o).fz p = some o := upd_same
/-- a new cell -/
theorem HR.addC (r : HR G L h H) {p : Addr} {o : HO} {c : Cell} (hp : H p = none) (rc : CellR G (L.addC h.length p) (h.length + 1) (upd H p o) h.length c o) (no : ∀ f a, L.ow h.length f = some a → H a = none → False := by intro f a e z; first | exact absurd z (by simp_all) | skip) :
    HR G (L.addC h.length p) (h ++ [c]) (upd H p o) := by
  have ne : ∀ {a : Addr}, (H a).isSome = true → a ≠ p := fun e => free_of hp e
  have alo : ∀ {m a}, m ≠ h.length → (L.addC h.length p).al m = some a → L.al m = some a := fun {m a} hm e => by
    simpa [Lay.addC, hm] using e
  have x : Ext h.length L (h ++ [c]).length (L.addC h.length p) := ⟨by simp, fun m a hm e => by simp [Lay.addC, Nat.ne_of_lt hm, e], fun _ _ e => e⟩
  refine ⟨fun a u e => ?_, fun m a e => ?_, fun m f a e => ?_, fun m m' a e1 e2 => ?_, r.oo, fun m m' g a e1 e2 => ?_, fun m a e => ?_, r.of, fun m c' e => ?_⟩
  · rw [upd_ne (ne (by rw [r.fz a u e]; rfl))]; exact r.fz a u e
  · by_cases hm : m = h.length
    · subst hm
      have : a = p := by simpa [Lay.addC] using e.symm
      rw [this, upd_same]; rfl
    · have e' := alo hm e
      rw [upd_ne (ne (r.alive m a e'))]; exact r.alive m a e'
  · rw [upd_ne (ne (r.olive m f a e))]; exact r.olive m f a e
  · by_cases hm : m = h.length
    · by_cases hm' : m' = h.length
      · rw [hm, hm']
      · have ea : a = p := by subst hm; simpa [Lay.addC] using e1.symm
        exact absurd ea (ne (r.alive m' a (alo hm' e2)))
    · by_cases hm' : m' = h.length
      · have ea : a = p := by subst hm'; simpa [Lay.addC] using e2.symm
        exact absurd ea (ne (r.alive m a (alo hm e1)))
      · exact r.aa m m' a (alo hm e1) (alo hm' e2)
  · by_cases hm : m = h.length
    · have ea : a = p := by subst hm; simpa [Lay.addC] using e1.symm
      exact ne (r.olive m' g a e2) ea
    · exact r.ao m m' g a (alo hm e1) e2
  · by_cases hm : m = h.length
    · have ea : a = p := by subst hm; simpa [Lay.addC] using e.symm
      cases q : L.fz a with
      | none => exact q
      | some u => rw [ea] at q; have := r.fz p u q; rw [hp] at this; cases this
    · exact r.af m a (alo hm e)
  · by_cases hm : m < h.length
    · rw [List.getElem?_append_left hm] at e
      obtain ⟨a, u, e1, e2, e3⟩ := r.cell m c' e
      refine ⟨a, u, x.al m a hm e1, by rw [upd_ne (ne (r.alive m a e1))]; exact e2, e3.keep x (fun _ _ z => z) fun f a u w z => ?_⟩
      rw [upd_ne (ne (by rw [z]; rfl))]; exact z
    · have hl := (List.getElem?_eq_some_iff.mp e).1
      rw [List.length_append, List.length_singleton] at hl
      have hm' : m = h.length := by omega
      subst hm'
      rw [List.getElem?_append_right (Nat.le_refl _)] at e
      have ec : c' = c := by simpa using e.symm
      subst ec
      refine ⟨p, o, by simp [Lay.addC], upd_same, ?_⟩
      rw [List.length_append, List.length_singleton]
      exact rc
theorem step_cell (q : Bool) (r : HR G L h H) {p : Addr} {o : HO} {c : Cell} (hp : H p = none) (rc : CellR G (L.addC h.length p) (h.length + 1) (upd H p o) h.length c o) : Step G q L h H (L.addC h.length p) (h ++ [c]) (upd H p o) := by
  have ne : ∀ {a : Addr}, (H a).isSome = true → a ≠ p := fun e => free_of hp e
  refine ⟨⟨by simp, fun m a hm e => by simp [Lay.addC, Nat.ne_of_lt hm, e], fun _ _ e => e⟩, r.addC hp rc (fun f a e z => by have := r.olive _ f a e; rw [z] at this; cases this), fun a u e _ => ?_, fun a e => ?_, fun a e z => ?_, fun a e z => .inl z, fun _ => ⟨fun a u e => ?_, rfl⟩, fun n c e => ⟨by rw [List.getElem?_append_left (List.getElem?_eq_some_iff.mp e).1]; exact e, fun a al => upd_ne (ne (r.alive _ a al))⟩⟩
  · rw [upd_ne (ne (by rw [e]; rfl))]; exact e
  · rw [upd_ne (ne e)]; exact e
  · rcases z with ⟨m, z⟩ | z
    · by_cases hm : m = h.length
      · subst hm
        have ea : a = p := by simpa [Lay.addC] using z.symm
        exact absurd ea (ne e)
      · exact .inl ⟨m, by simpa [Lay.addC, hm] using z⟩
    · exact .inr z
  · rw [upd_ne (ne (by rw [e]; rfl))]; exact e
end
end MP
set_option Elab.async false
set_option linter.all false
set_option autoImplicit false
set_option maxRecDepth 100000
set_option maxHeartbeats 2000000
/-! MP, part e: the operators by values. -/
namespace MP
open PySem PySem.Spec L2

section
variable {G : Gb} {px : Addr → Nat → Prop} {lam : Nat → Option Addr} {q : Bool} {L L' : Lay} {h h' : MH} {H H' : Hp}
theorem TupF.sq (r : HR G L h H) {a : Addr} {ys : List V} : TupF G L a ys → SqT G.K H a ys
  | .inl z => .inl (.inl (r.fz _ _ z))
  | .inr z => .inr z
theorem ER.val {v : MV} {u : V} (r : ER G px L h.length H lam (.v v) u) : VR G L h.length v u := r
theorem KlsF.sq (r : HR G L h H) {a : Addr} {ys : List V} : KlsF G L a ys → SqL G.K H a ys
  | .inl ⟨o, z⟩ => .inl (.inr ⟨o, r.fz _ _ z⟩)
  | .inr z => .inr z
/-- a container that is seen stands in H -/
theorem ct_of (r : HR G L h H) {e : EV} {u : V} {c : Ct} (k : ER G px L h.length H lam e u) (z : ctOf e h = some c) : ∃ a o, u = .ref a ∧ H a = some o ∧ CtR G L h.length c o := by
  cases e with
  | x c => simp [ctOf] at z
  | w c' p =>
    have ec : c' = c := by simpa [ctOf] using z
    subst ec
    cases p with
    | loc i => obtain ⟨a, o, e, _, h1, h2, _⟩ := k; exact ⟨a, o, e, h1, h2⟩
    | fld n f => obtain ⟨a, o, e, _, _, h1, h2⟩ := k; exact ⟨a, o, e, h1, h2⟩
  | v x =>
    cases x with
    | ref n =>
      cases k with
      | ref hn al =>
        rename_i a
        unfold ctOf at z
        cases hc : h[n]? with
        | none => simp [hc] at z
        | some cl =>
          cases cl with
          | ins c fs => simp [hc] at z
          | lk c => simp [hc] at z
          | ct c' =>
            have ec : c' = c := by simpa [hc] using z
            subst ec
            obtain ⟨a', o, e1, e2, e3⟩ := r.cell n _ hc
            rw [al] at e1; cases e1
            cases e3 with
            | ct e3 => exact ⟨a, o, rfl, e2, e3⟩
    | _ => simp [ctOf] at z
/-- a list's or tuple's items -/
theorem seq_of (r : HR G L h H) {e : EV} {u : V} {xs : List MV} (k : ER G px L h.length H lam e u) (z : seqOf e h = some xs) : ∃ a ys, u = .ref a ∧ (SqL G.K H a ys ∨ SqT G.K H a ys) ∧ VRs G L h.length xs ys := by
  have viaCt : ctOf e h = some (.lst xs) → ∃ a ys, u = .ref a ∧ (SqL G.K H a ys ∨ SqT G.K H a ys) ∧ VRs G L h.length xs ys := fun zc => by
    obtain ⟨a, o, e1, e2, e3⟩ := ct_of r k zc
    cases e3 with
    | lst rv => exact ⟨a, _, e1, .inl (SqL.of e2), rv⟩
  cases e with
  | x c => simp [seqOf] at z
  | w c p =>
    cases c with
    | lst ys => exact viaCt (by simpa [seqOf, ctOf] using z)
    | _ => simp [seqOf] at z
  | v x =>
    cases x with
    | tup ys =>
      have e : ys = xs := by simpa [seqOf] using z
      subst e
      cases k with
      | tup t rv => exact ⟨_, _, rfl, .inr (t.sq r), rv⟩
    | kl ys =>
      have e : ys = xs := by simpa [seqOf] using z
      subst e
      cases k with
      | kl t rv => exact ⟨_, _, rfl, .inl (t.sq r), rv⟩
    | lst ys =>
      have e : ys = xs := by simpa [seqOf] using z
      subst e
      cases k with
      | lst t rv => exact ⟨_, _, rfl, .inl (SqL.of (r.fz _ _ t)), rv⟩
    | ref n =>
      unfold seqOf at z
      cases hc : h[n]? with
      | none => simp [hc] at z
      | some cl =>
        cases cl with
        | ins c fs => simp [hc] at z
        | lk c => simp [hc] at z
        | ct c =>
          cases c with
          | lst ys => exact viaCt (by simp [hc] at z; simp [ctOf, hc, z])
          | _ => simp [hc] at z
    | _ => simp [seqOf] at z
/-- a list's items -/
theorem lst_of (r : HR G L h H) {e : EV} {u : V} {xs : List MV} (k : ER G px L h.length H lam e u) (z : lstOf e h = some xs) : ∃ a ys, u = .ref a ∧ H a = some (.lst ys) ∧ VRs G L h.length xs ys := by
  have viaCt : ctOf e h = some (.lst xs) → ∃ a ys, u = .ref a ∧ H a = some (.lst ys) ∧ VRs G L h.length xs ys := fun zc => by
    obtain ⟨a, o, e1, e2, e3⟩ := ct_of r k zc
    cases e3 with
    | lst rv => exact ⟨a, _, e1, e2, rv⟩
  cases e with
  | x c => simp [lstOf, seqOf] at z
  | w c p =>
    cases c with
    | lst ys => exact viaCt (by simpa [lstOf, seqOf, ctOf] using z)
    | _ => simp [lstOf, seqOf] at z
  | v x =>
    cases x with
    | lst ys =>
      have e : ys = xs := by simpa [lstOf, seqOf] using z
      subst e
      cases k with
      | lst t rv => exact ⟨_, _, rfl, r.fz _ _ t, rv⟩
    | ref n =>
      unfold lstOf seqOf at z
      cases hc : h[n]? with
      | none => simp [hc] at z
      | some cl =>
        cases cl with
        | ins c fs => simp [hc] at z
        | lk c => simp [hc] at z
        | ct c =>
          cases c with
          | lst ys => exact viaCt (by simp [hc] at z; simp [ctOf, hc, z])
          | _ => simp [hc] at z
    | _ => simp [lstOf, seqOf] at z
mutual
theorem dp_of (r : HR G L h H) : ∀ {v : MV} {u : V} {d : PyData}, VR G L h.length v u → dataOf h v = some d → Dp G.K H u d
  | _, _, d, .non, z => by cases (show some PyData.none = some d by simpa [dataOf] using z); exact .non
  | _, _, d, .bl k, z => by cases (show some (PyData.bool k) = some d by simpa [dataOf] using z); exact .bl k
  | _, _, d, .int k, z => by cases (show some (PyData.int k) = some d by simpa [dataOf] using z); exact .int k
  | _, _, d, .str k, z => by cases (show some (PyData.str k) = some d by simpa [dataOf] using z); exact .str k
  | _, _, d, .tup t rv, z => by
    obtain ⟨ds, e1, e2⟩ := Option.map_eq_some_iff.mp (by simpa [dataOf] using z)
    subst e2
    exact .tup (t.sq r) (dps_of r rv e1)
  | _, _, d, .lst t rv, z => by
    obtain ⟨ds, e1, e2⟩ := Option.map_eq_some_iff.mp (by simpa [dataOf] using z)
    subst e2
    exact .lst (SqL.of (r.fz _ _ t)) (dps_of r rv e1)
  | _, _, d, .dct _ _ _, z => by simp [dataOf] at z
  | _, _, d, .ins _ _ _, z => by simp [dataOf] at z
  | _, _, d, .ref _ _, z => by simp [dataOf] at z
  | _, _, d, .fn _, z => by simp [dataOf] at z
  | _, _, d, .cls _, z => by simp [dataOf] at z
  | _, _, d, .ty _, z => by simp [dataOf] at z
  | _, _, d, .kl _ _, z => by simp [dataOf] at z
theorem dps_of (r : HR G L h H) : ∀ {vs : List MV} {us : List V} {ds : List PyData}, VRs G L h.length vs us → datasOf h vs = some ds → DpAll G.K H us ds
  | _, _, ds, .nil, z => by cases (show some [] = some ds by simpa [datasOf] using z); exact .nil
  | _, _, ds, .cons k t, z => by
    rw [datasOf] at z
    obtain ⟨d, e1, z⟩ := Option.bind_eq_some_iff.mp z
    obtain ⟨ds', e2, e3⟩ := Option.map_eq_some_iff.mp z
    subst e3
    exact .cons (dp_of r k e1) (dps_of r t e2)
end
theorem dpE_of (r : HR G L h H) {e : EV} {u : V} {d : PyData} (k : ER G px L h.length H lam e u) (z : dataE e h = some d) : Dp G.K H u d := by
  have viaL : ∀ {xs : List MV}, lstOf e h = some xs → (datasOf h xs).map PyData.list = some d → Dp G.K H u d := fun {xs} zl zd => by
    obtain ⟨a, ys, e1, e2, e3⟩ := lst_of r k zl
    obtain ⟨ds, e4, e5⟩ := Option.map_eq_some_iff.mp zd
    subst e1; subst e5
    exact .lst (SqL.of e2) (dps_of r e3 e4)
  cases e with
  | x c => simp [dataE] at z
  | w c p =>
    cases c with
    | lst ys => exact viaL (xs := ys) rfl (by simpa [dataE] using z)
    | _ => simp [dataE] at z
  | v x =>
    cases x with
    | ref n =>
      unfold dataE at z
      cases hc : h[n]? with
      | none => simp [hc] at z
      | some cl =>
        cases cl with
        | ins c fs => simp [hc] at z
        | lk c => simp [hc] at z
        | ct c =>
          cases c with
          | lst ys => exact viaL (xs := ys) (by simp [lstOf, seqOf, hc]) (by simpa [hc] using z)
          | _ => simp [hc] at z
    | _ => exact dp_of r k (by simpa [dataE] using z)

/-! ### dicts -/
theorem find_zip {κ : Type} [DecidableEq κ] {b : Nat} : ∀ {ks : List κ} {xs : List MV} {ys : List V} {k : κ}, ks.length = ys.length → VRs G L b xs ys →
    (findK ks xs k = none ∧ valV (ks.zip ys) k = none) ∨ ∃ v y, findK ks xs k = some v ∧ valV (ks.zip ys) k = some y ∧ VR G L b v y
  | [], _, [], k, _, _ => .inl ⟨by simp [findK], valV_nil⟩
  | j :: ks, _, y :: ys, k, hl, .cons r t => by
    by_cases e : j = k
    · exact .inr ⟨_, y, by simp [findK, e], valV_pos (p := (j, y)) e, r⟩
    · have ih := find_zip (ks := ks) (k := k) (by simpa using hl) t
      rw [show (j :: ks).zip (y :: ys) = (j, y) :: ks.zip ys from rfl, valV_neg (p := (j, y)) e]
      simpa [findK, e] using ih
  | [], _, _ :: _, k, hl, _ => by simp at hl
  | _ :: _, _, [], k, hl, _ => by simp at hl
theorem key_of {b : Nat} {v : MV} {u : V} {k : Key} (r : VR G L b v u) (z : keyOf v = some k) : u = kV k := by
  cases r <;> simp [keyOf] at z <;> subst z <;> rfl
/-- a dict's keys and values: it stands in H, or it is the module's -/
theorem dct_of (r : HR G L h H) {e : EV} {u : V} {ks : List Key} {xs : List MV} (k : ER G px L h.length H lam e u) (z : dctOf e h = some (ks, xs)) :
    ∃ a ys, u = .ref a ∧ ks.length = ys.length ∧ VRs G L h.length xs ys ∧ (Rd H a (.dK (ks.zip ys)) ∨ (G.kd a ks ys ∧ ∃ l w, e = .v (.dct l w))) := by
  have viaCt : ctOf e h = some (.dK ks xs) → ∃ a ys, u = .ref a ∧ ks.length = ys.length ∧ VRs G L h.length xs ys ∧ (Rd H a (.dK (ks.zip ys)) ∨ (G.kd a ks ys ∧ ∃ l w, e = .v (.dct l w))) := fun zc => by
    obtain ⟨a, o, e1, e2, e3⟩ := ct_of r k zc
    cases e3 with
    | dK l rv => exact ⟨a, _, e1, l, rv, .inl (.inl e2)⟩
  cases e with
  | x c => simp [dctOf] at z
  | w c p =>
    cases c with
    | dK ks' ys => exact viaCt (by simp [dctOf] at z; simp [ctOf, z])
    | _ => simp [dctOf] at z
  | v x =>
    cases x with
    | dct ks' ys =>
      have e : ks' = ks ∧ ys = xs := by simpa [dctOf] using z
      obtain ⟨e1, e2⟩ := e
      subst e1; subst e2
      cases k with
      | dct t l rv => exact ⟨_, _, rfl, l, rv, t.imp (fun z => .inl (r.fz _ _ z)) fun z => ⟨z, _, _, rfl⟩⟩
    | ref n =>
      unfold dctOf at z
      cases hc : h[n]? with
      | none => simp [hc] at z
      | some cl =>
        cases cl with
        | ins c fs => simp [hc] at z
        | lk c =>
          cases c with
          | dK ks' ys =>
            have e : ks' = ks ∧ ys = xs := by simpa [hc] using z
            obtain ⟨rfl, rfl⟩ := e
            cases k with
            | ref hn al =>
              obtain ⟨a', o, e1, e2, e3⟩ := r.cell n _ hc
              rw [al] at e1; cases e1
              cases e3 with
              | lk e3 =>
                cases e3 with
                | dK l rv => exact ⟨_, _, rfl, l, rv, .inl (.inr ⟨_, e2⟩)⟩
          | _ => simp [hc] at z
        | ct c =>
          cases c with
          | dK ks' ys => exact viaCt (by simp [hc] at z; simp [ctOf, hc, z])
          | _ => simp [hc] at z
    | _ => simp [dctOf] at z

theorem DGet.r {H : Hp} {a : Addr} {kvs : List (Key × V)} {k : Key} (e : Rd H a (.dK kvs)) : DGet H a (kV k) (valV kvs k) := .inl ⟨kvs, k, e, rfl, rfl⟩
/-! ### what is asked of the module's dicts -/
def KdOk (G : Gb) (w : World) : Prop := ∀ a ks ys, G.kd a ks ys → ∃ es n, KDict G.K w a es n ∧ (∀ k ∈ ks, ∃ z, k = .inr z) ∧ ∀ z : Str, (valV (ks.zip ys) (.inr z) = none → PySem.W.nsIn G.K a z = some none) ∧
  ∀ y, valV (ks.zip ys) (.inr z) = some y → ∃ u0, PySem.W.nsIn G.K a z = some (some u0) ∧ RelV y u0
/-- what the rules of an expression lean on, of the context -/
structure Ops (G : Gb) (X : Cx) : Prop where
  K : X.K = G.K
  kd : KdOk G X.w
  hu : X.A.units + 65 < cLine

end

/-! ### the rules, by the operator -/
def B2.bin : B2 → Option Operator
  | .add => some .Add | .sub => some .Sub | .mul => some .Mult | .mod => some .Mod | .fdiv => some .FloorDiv | .pow => some .Pow
  | _ => none
def B2.cmp : B2 → Option CmpOp
  | .eq => some .Eq | .ne => some .NotEq | .lt => some .Lt | .le => some .LtE | .gt => some .Gt | .ge => some .GtE | .is => some .Is | .isnot => some .IsNot | .in => some .In | .notin => some .NotIn
  | _ => none
/-- x in y where y is a dict that stands in H, or the module's -/
def rInDK (G : Gb) (f : Bool → Bool) : R2 := fun x y H Q => ∃ a o, y = .ref a ∧ DGet H a x o ∧ Q (.bl (f o.isSome)) H
def rInKD (G : Gb) (f : Bool → Bool) : R2 := fun x y H Q => ∃ a ks ys, ∃ z : Str, y = .ref a ∧ G.kd a ks ys ∧ x = .str z ∧ Q (.bl (f (valV (ks.zip ys) (Sum.inr z : Key)).isSome)) H
def rInS (f : Bool → Bool) : R2 := fun x y H Q => ∃ (c : Nat) (z : Str), x = .str ⟨#[c]⟩ ∧ y = .str z ∧ Q (.bl (f (decide (c ∈ z.cps.toList)))) H
def rOf (G : Gb) : B2 → R2
  | .add => fun x y H Q => (rI0 (fun i j => .int (i + j)) x y H Q) ∨ ((∃ i j, x = .str i ∧ y = .str j ∧ i.length + j.length ≤ sizeLine ∧ Q (.str (i ++ j)) H) ∨ rCatA G.K x y H Q)
  | .sub => rI0 fun i j => .int (i - j)
  | .mul => fun x y H Q => (rI CMul fun i j => .int (i * j)) x y H Q ∨ ∃ i j, x = .str i ∧ y = .int j ∧ repOk i j = true ∧ Q (.str (repS i j)) H
  | .mod => rI (fun _ j => 0 < j) fun i j => .int (i % j)
  | .fdiv => rI CDivW fun i j => .int (i / j)
  | .pow => rI CPow fun i j => .int (i ^ j.toNat)
  | .eq => rEqD G.K
  | .ne => rNeD G.K
  | .lt => fun x y H Q => rI0 (fun i j => .bl (decide (i < j))) x y H Q ∨ ∃ i j, x = .str i ∧ y = .str j ∧ Q (.bl (decide (i.cps.toList < j.cps.toList))) H
  | .gt => fun x y H Q => rI0 (fun i j => .bl (decide (j < i))) x y H Q ∨ ∃ i j, x = .str i ∧ y = .str j ∧ Q (.bl (decide (j.cps.toList < i.cps.toList))) H
  | .le => rI0 fun i j => .bl (decide (i ≤ j))
  | .ge => rI0 fun i j => .bl (decide (j ≤ i))
  | .is => fun x y H Q => (y = .non ∧ Q (.bl (decide (x = .non))) H) ∨ rIsB x y H Q
  | .isnot => fun x y H Q => (y = .non ∧ Q (.bl (!decide (x = .non))) H) ∨ rNotB x y H Q
  | .in => fun x y H Q => rInS id x y H Q ∨ (rIn G.K false x y H Q ∨ (rInDK G id x y H Q ∨ rInKD G id x y H Q))
  | .notin => fun x y H Q => rInS (fun b => !b) x y H Q ∨ (rIn G.K true x y H Q ∨ (rInDK G (fun b => !b) x y H Q ∨ rInKD G (fun b => !b) x y H Q))
section
variable {G : Gb} {X : Cx}
theorem op_inDK (O : Ops G X) : OpR X (compareOp .In) (rInDK G id) := by
  intro pins s σ H x y v u Q I rx ry h
  obtain ⟨a, o, rfl, g, q⟩ := h
  obtain rfl : u = Value.ref a := ry
  exact d_in (Nat.lt_of_le_of_lt (Nat.add_le_add_left (by decide) _) O.hu) I g rx fun s3 I3 => ⟨.bl o.isSome, H, I3, rfl, q⟩
theorem op_notinDK (O : Ops G X) : OpR X (compareOp .NotIn) (rInDK G fun b => !b) := by
  intro pins s σ H x y v u Q I rx ry h
  obtain ⟨a, o, rfl, g, q⟩ := h
  obtain rfl : u = Value.ref a := ry
  exact d_notIn (Nat.lt_of_le_of_lt (Nat.add_le_add_left (by decide) _) O.hu) I g rx fun s3 I3 => ⟨.bl (!o.isSome), H, I3, rfl, q⟩
theorem op_inKD (O : Ops G X) : OpR X (compareOp .In) (rInKD G id) := by
  intro pins s σ H x y v u Q I rx ry h
  obtain ⟨a, ks, ys, z, ey, hk, ex, q⟩ := h
  obtain ⟨es, n, D, _, hz⟩ := O.kd a ks ys hk
  rw [← O.K] at D hz
  obtain ⟨h1, h2⟩ := hz z
  cases e : valV (ks.zip ys) (Sum.inr z : Key) with
  | none => rw [e] at q; exact op_in_kd D pins s σ H x y v u Q I rx ry ⟨z, none, ex, ey, h1 e, q⟩
  | some w => obtain ⟨u0, e0, _⟩ := h2 w e; rw [e] at q; exact op_in_kd D pins s σ H x y v u Q I rx ry ⟨z, some u0, ex, ey, e0, q⟩
theorem op_notinKD (O : Ops G X) : OpR X (compareOp .NotIn) (rInKD G fun b => !b) := by
  intro pins s σ H x y v u Q I rx ry h
  obtain ⟨a, ks, ys, z, ey, hk, ex, q⟩ := h
  obtain ⟨es, n, D, _, hz⟩ := O.kd a ks ys hk
  rw [← O.K] at D hz
  obtain ⟨h1, h2⟩ := hz z
  cases e : valV (ks.zip ys) (Sum.inr z : Key) with
  | none => rw [e] at q; exact op_notIn_kd D pins s σ H x y v u Q I rx ry ⟨z, none, ex, ey, h1 e, q⟩
  | some w => obtain ⟨u0, e0, _⟩ := h2 w e; rw [e] at q; exact op_notIn_kd D pins s σ H x y v u Q I rx ry ⟨z, some u0, ex, ey, e0, q⟩
theorem op_rep_str : OpR X (binaryOp .Mult) fun x y H Q => ∃ i j, x = .str i ∧ y = .int j ∧ repOk i j = true ∧ Q (.str (repS i j)) H := by
  intro pins s σ H x y v u Q I rx ry h
  obtain ⟨i, j, rfl, rfl, c, q⟩ := h
  obtain ⟨t, rfl⟩ := rx
  obtain ⟨u, rfl⟩ := ry
  unfold repOk at c
  simp only [Bool.and_eq_true, decide_eq_true_eq] at c
  obtain ⟨c1, c2, c3, c4, c5⟩ := c
  have hr : (decide (j < -(2 ^ 63 : Int)) || decide (j ≥ 2 ^ 63)) = false := by
    rw [decide_eq_false (by omega), decide_eq_false (by omega)]; rfl
  have len : i.length * j.toNat ≤ 4096 * 4096 := Nat.mul_le_mul (by omega) (by omega)
  have hb : ¬ ((i.length : Int) > (2 ^ 63 - 1) / j) := by
    have h2 : (4096 : Int) ≤ (2 ^ 63 - 1) / j := (Int.le_ediv_iff_mul_le (by omega)).mpr (by omega)
    omega
  have h3 : (j == 1 || i.length == 0) = false := by
    rw [Bool.or_eq_false_iff]
    exact ⟨beq_eq_false_iff_ne.mpr (by omega), beq_eq_false_iff_ne.mpr (by omega)⟩
  refine PySem.P.mul_str hr (fun h1 _ => hb) (fun h1 _ => ?_) ?_
  · show decide (i.length * j.toNat > sizeLine) = false
    rw [sizeLine_eq]
    exact decide_eq_false (by omega)
  · rw [if_neg (by omega), h3]
    exact ⟨c5, .str (repS i j), H, I.tok _, ⟨_, rfl⟩, q⟩
theorem opr_bin (O : Ops G X) {o : B2} {op : Operator} (e : o.bin = some op) : OpR X (binaryOp op) (rOf G o) := by
  cases o <;> simp only [B2.bin, Option.some.injEq, reduceCtorEq] at e <;> subst e
  · exact OpR.or op_add (OpR.or op_add_str (by have := op_catA (X := X); rw [O.K] at this; exact this))
  · exact op_sub
  · exact OpR.or op_mul op_rep_str
  · exact op_mod
  · exact op_fdivW
  · exact op_pow
theorem opr_cmp (O : Ops G X) {o : B2} {op : CmpOp} (e : o.cmp = some op) : OpR X (compareOp op) (rOf G o) := by
  have hu : X.A.units + 64 < cLine := Nat.lt_of_le_of_lt (Nat.add_le_add_left (by decide) _) O.hu
  cases o <;> simp only [B2.cmp, Option.some.injEq, reduceCtorEq] at e <;> subst e
  · have := op_eqD (X := X) hu; rw [O.K] at this; exact this
  · have := op_neD (X := X) hu; rw [O.K] at this; exact this
  · exact OpR.or op_lt op_lt_str
  · exact op_le
  · exact OpR.or op_gt op_gt_str
  · exact op_ge
  · exact OpR.or op_isN op_isBl
  · exact OpR.or op_notN op_notBl
  · exact OpR.or op_in_sign (OpR.or (by have := op_in_seq (X := X); rw [O.K] at this; exact this) (OpR.or (op_inDK O) (op_inKD O)))
  · exact OpR.or op_notIn_sign (OpR.or (by have := op_notIn_seq (X := X); rw [O.K] at this; exact this) (OpR.or (op_notinDK O) (op_notinKD O)))
end
end MP
set_option Elab.async false
set_option linter.all false
set_option autoImplicit false
set_option maxRecDepth 100000
set_option maxHeartbeats 4000000
/-! MP, part f: the operators' meanings meet their rules. -/
namespace MP
open PySem PySem.Spec L2

section
variable {G : Gb} {px : Addr → Nat → Prop} {lam : Nat → Option Addr} {q : Bool} {L L' : Lay} {h h' : MH} {H H' : Hp} {Q : VK}
theorem val_here {v : MV} {x : V} (z : Val G q L h H Q v h) (r : HR G L h H) (k : VR G L h.length v x) : Q x H := z L H x (Step.refl r) k
theorem here_int {i : Int} (z : Val G q L h H Q (.int i) h) (r : HR G L h H) : Q (.int i) H := val_here z r (.int i)
theorem here_bl {i : Bool} (z : Val G q L h H Q (.bl i) h) (r : HR G L h H) : Q (.bl i) H := val_here z r (.bl i)
theorem here_str {i : Str} (z : Val G q L h H Q (.str i) h) (r : HR G L h H) : Q (.str i) H := val_here z r (.str i)
/-- a new tuple -/
theorem new_tup {xs : List MV} {ys : List V} (z : Val G q L h H Q (.tup xs) h) (r : HR G L h H) (k : VRs G L h.length xs ys) {p : Addr} (hp : H p = none) : Q (.ref p) (upd H p (.tup ys)) :=
  z (L.addF p (.tup ys)) _ _ (step_fz q r hp) (.tup (.inl addF_at) ((step_fz (G := G) q r hp).vrs k))
theorem ru_ints {o : B2} {r : R2} (ho : ∀ x y h, (∀ i j, ¬ (x = .v (.int i) ∧ y = .v (.int j))) → ev2 o x y h = .bad) (hr : ∀ L h H Q (Z : Nat → MH → Prop) i j, HR G L h H → (ev2 o (.v (.int i)) (.v (.int j)) h).Post (Val G q L h H Q) Z → r (.int i) (.int j) H Q) : Ru2 G q (ev2 o) r := by
  intro px lam L h H Q Z x y u v rH kx ky z
  by_cases e : ∃ i j, x = .v (.int i) ∧ y = .v (.int j)
  · obtain ⟨i, j, rfl, rfl⟩ := e
    cases kx; cases ky
    exact hr L h H Q Z i j rH z
  · rw [ho x y h fun i j z => e ⟨i, j, z⟩] at z
    exact z.elim
theorem not_ints {o : B2} (ho : o = .sub ∨ o = .mod ∨ o = .fdiv ∨ o = .pow ∨ o = .le ∨ o = .ge) : ∀ (x y : EV) (h : MH), (∀ i j, ¬ (x = .v (.int i) ∧ y = .v (.int j))) → ev2 o x y h = .bad := by
  intro x y h n
  rcases ho with rfl | rfl | rfl | rfl | rfl | rfl <;>
  (cases x with
    | w c p => rfl
    | x c => rfl
    | v x => cases y with
      | w c p => cases x <;> rfl
      | x c => cases x <;> rfl
      | v y => cases x <;> cases y <;> first | rfl | exact absurd ⟨rfl, rfl⟩ (n _ _))
theorem ru_sub : Ru2 G q (ev2 .sub) (rOf G .sub) := ru_ints (not_ints (by simp)) fun L h H Q Z i j r z => ⟨i, j, rfl, rfl, here_int z r⟩
theorem ru_le : Ru2 G q (ev2 .le) (rOf G .le) := ru_ints (not_ints (by simp)) fun L h H Q Z i j r z => ⟨i, j, rfl, rfl, here_bl z r⟩
theorem ru_ge : Ru2 G q (ev2 .ge) (rOf G .ge) := ru_ints (not_ints (by simp)) fun L h H Q Z i j r z => ⟨i, j, rfl, rfl, here_bl z r⟩
theorem post_if {α : Type} {c : Prop} [Decidable c] {a : Res α} {P : α → MH → Prop} {X : Nat → MH → Prop} (z : (if c then a else .bad).Post P X) : c ∧ a.Post P X := by
  by_cases e : c
  · rw [if_pos e] at z; exact ⟨e, z⟩
  · rw [if_neg e] at z; exact z.elim
theorem ru_mul : Ru2 G q (ev2 .mul) (rOf G .mul) := by
  intro px lam L h H Q Z x y u v r kx ky z
  cases x with
  | v x =>
    cases y with
    | v y =>
      cases x with
      | int i =>
        cases y with
        | int j =>
          cases kx; cases ky
          obtain ⟨c, z⟩ := post_if (show (if mulOk i j = true then Res.ok (MV.int (i * j)) h else .bad).Post _ _ from z)
          exact .inl ⟨i, j, rfl, rfl, by simpa [mulOk, CMul] using c, here_int z r⟩
        | _ => exact z.elim
      | str i =>
        cases y with
        | int j =>
          cases kx; cases ky
          obtain ⟨c, z⟩ := post_if (show (if repOk i j = true then Res.ok (MV.str (repS i j)) h else .bad).Post _ _ from z)
          exact .inr ⟨i, j, rfl, rfl, c, here_str z r⟩
        | _ => exact z.elim
      | _ => cases y <;> exact z.elim
    | _ => cases x <;> exact z.elim
  | _ => exact z.elim
theorem ru_mod : Ru2 G q (ev2 .mod) (rOf G .mod) := ru_ints (not_ints (by simp)) fun L h H Q Z i j r z => by
  obtain ⟨c, z⟩ := post_if (show (if 0 < j then Res.ok (MV.int (i % j)) h else .bad).Post _ _ from z)
  exact ⟨i, j, rfl, rfl, c, here_int z r⟩
theorem ru_fdiv : Ru2 G q (ev2 .fdiv) (rOf G .fdiv) := ru_ints (not_ints (by simp)) fun L h H Q Z i j r z => by
  obtain ⟨c, z⟩ := post_if (show (if 0 < j ∧ j < 18446744073709551616 then Res.ok (MV.int (i / j)) h else .bad).Post _ _ from z)
  exact ⟨i, j, rfl, rfl, wide_div (b := 64) c.1 (by have := c.2; omega) (by decide) (by decide), here_int z r⟩
theorem ru_pow : Ru2 G q (ev2 .pow) (rOf G .pow) := ru_ints (not_ints (by simp)) fun L h H Q Z i j r z => by
  obtain ⟨c, z⟩ := post_if (show (if 0 ≤ j ∧ j ≤ 1000000 ∧ i.natAbs < 2 ^ 64 then Res.ok (MV.int (i ^ j.toNat)) h else .bad).Post _ _ from z)
  exact ⟨i, j, rfl, rfl, c, here_int z r⟩
theorem ru_add : Ru2 G q (ev2 .add) (rOf G .add) := by
  intro px lam L h H Q Z x y u v r kx ky z
  cases x with
  | w c p => exact z.elim
  | x c => exact z.elim
  | v x => cases y with
    | w c p => cases x <;> exact z.elim
    | x c => cases x <;> exact z.elim
    | v y => cases x with
      | int i => cases y with
        | int j => cases kx; cases ky; exact .inl ⟨i, j, rfl, rfl, here_int z r⟩
        | _ => exact z.elim
      | str i => cases y with
        | str j =>
          cases kx; cases ky
          obtain ⟨c, z⟩ := post_if (show (if i.length + j.length ≤ sizeLine then Res.ok (MV.str (i ++ j)) h else .bad).Post _ _ from z)
          exact .inr (.inl ⟨i, j, rfl, rfl, c, here_str z r⟩)
        | _ => exact z.elim
      | tup xs => cases y with
        | tup ys =>
          obtain ⟨c, z⟩ := post_if (show (if xs.length + ys.length ≤ sizeLine then Res.ok (MV.tup (xs ++ ys)) h else .bad).Post _ _ from z)
          cases kx with
          | tup t1 k1 => cases ky with
            | tup t2 k2 =>
              rename_i a zs b ws
              refine .inr (.inr ⟨a, b, zs, ws, rfl, rfl, t1.sq r, t2.sq r, by rw [← k1.length, ← k2.length]; exact c, fun e => ?_, fun _ e => ?_, fun _ _ p hp => ?_⟩)
              · subst e; cases k1; exact val_here z r (.tup t2 (by simpa using k2))
              · subst e; cases k2; rw [List.append_nil] at z; exact val_here z r (.tup t1 k1)
              · exact new_tup z r (k1.append k2) hp
        | _ => exact z.elim
      | _ => exact z.elim
theorem ru_eq : Ru2 G q (ev2 .eq) (rOf G .eq) := by
  intro px lam L h H Q Z x y u v r kx ky z
  have z : (match dataE x h, dataE y h with | some d, some e => if shapedB d && shapedB e then Res.ok (MV.bl (PyData.eqv d e)) h else .bad | _, _ => .bad).Post (Val G q L h H Q) Z := z
  cases e1 : dataE x h with
  | none => rw [e1] at z; exact z.elim
  | some d => cases e2 : dataE y h with
    | none => rw [e1, e2] at z; exact z.elim
    | some e =>
      rw [e1, e2] at z
      obtain ⟨c, z⟩ := post_if z
      rw [Bool.and_eq_true] at c
      exact ⟨d, e, dpE_of r kx e1, dpE_of r ky e2, c.1, c.2, here_bl z r⟩
theorem ru_ne : Ru2 G q (ev2 .ne) (rOf G .ne) := by
  intro px lam L h H Q Z x y u v r kx ky z
  have z : (match dataE x h, dataE y h with | some d, some e => if shapedB d && shapedB e then Res.ok (MV.bl (!PyData.eqv d e)) h else .bad | _, _ => .bad).Post (Val G q L h H Q) Z := z
  cases e1 : dataE x h with
  | none => rw [e1] at z; exact z.elim
  | some d => cases e2 : dataE y h with
    | none => rw [e1, e2] at z; exact z.elim
    | some e =>
      rw [e1, e2] at z
      obtain ⟨c, z⟩ := post_if z
      rw [Bool.and_eq_true] at c
      exact ⟨d, e, dpE_of r kx e1, dpE_of r ky e2, c.1, c.2, here_bl z r⟩
theorem ru_ltgt {o : B2} (ho : o = .lt ∨ o = .gt) : Ru2 G q (ev2 o) (rOf G o) := by
  intro px lam L h H Q Z x y u v r kx ky z
  rcases ho with rfl | rfl <;>
  (cases x with
  | w c p => exact z.elim
  | x c => exact z.elim
  | v x => cases y with
    | w c p => cases x <;> exact z.elim
    | x c => cases x <;> exact z.elim
    | v y => cases x with
      | int i => cases y with
        | int j => cases kx; cases ky; exact .inl ⟨i, j, rfl, rfl, here_bl z r⟩
        | _ => exact z.elim
      | str i => cases y with
        | str j => cases kx; cases ky; exact .inr ⟨i, j, rfl, rfl, here_bl z r⟩
        | _ => exact z.elim
      | _ => cases y <;> exact z.elim)
theorem VR.non_iff {b : Nat} {x : MV} {u : V} (k : VR G L b x u) : decide (u = .non) = (match x with | .non => true | _ => false) := by
  cases k <;> first | rfl | (rw [decide_eq_false (by intro e; cases e)])
theorem ru_is : Ru2 G q (ev2 .is) (rOf G .is) := by
  intro px lam L h H Q Z x y u v r kx ky z
  cases x with
  | w c p => cases y with
    | v y => cases y <;> exact z.elim
    | _ => exact z.elim
  | x c => cases y with
    | v y => cases y <;> exact z.elim
    | _ => exact z.elim
  | v x => cases y with
    | w c p => cases x <;> exact z.elim
    | x c => cases x <;> exact z.elim
    | v y => cases y with
      | non =>
        cases ky
        refine .inl ⟨rfl, ?_⟩
        rw [VR.non_iff kx]
        exact here_bl (by cases x <;> exact z) r
      | bl b => cases x with
        | bl a => cases kx; cases ky; exact .inr ⟨a, b, rfl, rfl, here_bl z r⟩
        | _ => exact z.elim
      | _ => cases x <;> exact z.elim
theorem ru_isnot : Ru2 G q (ev2 .isnot) (rOf G .isnot) := by
  intro px lam L h H Q Z x y u v r kx ky z
  cases x with
  | w c p => cases y with
    | v y => cases y <;> exact z.elim
    | _ => exact z.elim
  | x c => cases y with
    | v y => cases y <;> exact z.elim
    | _ => exact z.elim
  | v x => cases y with
    | w c p => cases x <;> exact z.elim
    | x c => cases x <;> exact z.elim
    | v y => cases y with
      | non =>
        cases ky
        refine .inl ⟨rfl, ?_⟩
        rw [VR.non_iff kx]
        exact here_bl (by cases x <;> exact z) r
      | bl b => cases x with
        | bl a => cases kx; cases ky; exact .inr ⟨a, b, rfl, rfl, here_bl z r⟩
        | _ => exact z.elim
      | _ => cases x <;> exact z.elim
theorem key_text {y : EV} {x : MV} {k : Key} (e : keyD y x = some k) (h : ∃ l w, y = .v (.dct l w)) : ∃ z, k = .inr z ∧ x = .str z := by
  obtain ⟨l, w, rfl⟩ := h
  cases x <;> simp [keyD] at e
  exact ⟨_, e.symm, rfl⟩
theorem keyD_of {y : EV} {x : MV} {k : Key} (e : keyD y x = some k) : keyOf x = some k := by
  unfold keyD at e
  split at e
  · split at e
    · rw [← e]; rfl
    · cases e
  · exact e
theorem flat_of {b : Nat} {x : MV} {u : V} (k : VR G L b x u) (f : isFlat x = true) : flatV u = true := by
  cases k <;> first | rfl | (simp [isFlat] at f)
theorem flats_of {b : Nat} : ∀ {xs : List MV} {us : List V}, VRs G L b xs us → xs.all isFlat = true → us.all flatV = true
  | _, _, .nil, _ => rfl
  | _, _, .cons k t, f => by
    rw [List.all_cons, Bool.and_eq_true] at f ⊢
    exact ⟨flat_of k f.1, flats_of t f.2⟩
theorem flatEq_of {b : Nat} {x y : MV} {u v : V} (k : VR G L b x u) (l : VR G L b y v) (f : isFlat x = true) (g : isFlat y = true) : eqV u v = flatEq x y := by
  cases k <;> cases l <;> first | rfl | (simp [isFlat] at f; done) | (simp [isFlat] at g; done)
theorem inV_of {b : Nat} {x : MV} {u : V} (k : VR G L b x u) (f : isFlat x = true) : ∀ {xs : List MV} {us : List V}, VRs G L b xs us → xs.all isFlat = true → inV u us = xs.any fun z => flatEq z x
  | _, _, .nil, _ => rfl
  | _, _, .cons l t, g => by
    rw [List.all_cons, Bool.and_eq_true] at g
    have ih := inV_of k f t g.2
    unfold inV at ih ⊢
    rw [List.any_cons, List.any_cons, ih, flatEq_of l k g.1 f]
theorem in_core {f : Bool → Bool} {neg : Bool} (hf : ∀ b, f b = if neg then !b else b) {x y : EV} {u v : V} {k : Bool} (r : HR G L h H) (kx : ER G px L h.length H lam x u) (ky : ER G px L h.length H lam y v) (e : inEv x y h = some k) (z : Q (.bl (f k)) H) :
    rInS f u v H Q ∨ (rIn G.K neg u v H Q ∨ (rInDK G f u v H Q ∨ rInKD G f u v H Q)) := by
  have gen : inDS x y h = some k → rIn G.K neg u v H Q ∨ (rInDK G f u v H Q ∨ rInKD G f u v H Q) := fun e => by
    unfold inDS at e
    cases hd : dctOf y h with
    | some p =>
      obtain ⟨ks, vs⟩ := p
      rw [hd] at e
      cases x with
      | w c p => cases e
      | x c => cases e
      | v x =>
        obtain ⟨j, e1, e2⟩ := Option.map_eq_some_iff.mp e
        obtain ⟨a, ys, rfl, hl, rv, hh⟩ := dct_of r ky hd
        have ku := key_of kx (keyD_of e1)
        subst ku
        have fz := find_zip (k := j) hl rv
        have es : (valV (ks.zip ys) j).isSome = k := by
          rcases fz with ⟨f1, f2⟩ | ⟨v, y, f1, f2, _⟩
          · rw [f2, ← e2, f1]; rfl
          · rw [f2, ← e2, f1]; rfl
        rcases hh with hh | ⟨hh, hy⟩
        · exact .inr (.inl ⟨a, _, rfl, DGet.r hh, by rw [es]; exact z⟩)
        · obtain ⟨t, et, _⟩ := key_text e1 hy
          subst et
          exact .inr (.inr ⟨a, ks, ys, t, rfl, hh, rfl, by rw [es]; exact z⟩)
    | none =>
      rw [hd] at e
      cases hs : seqOf y h with
      | none => rw [hs] at e; cases e
      | some xs =>
        rw [hs] at e
        cases x with
        | w c p => cases e
        | x c => cases e
        | v x =>
          have e : (if isFlat x && xs.all isFlat then some (xs.any fun z => flatEq z x) else none) = some k := e
          by_cases c : (isFlat x && xs.all isFlat) = true
          · rw [if_pos c] at e
            rw [Bool.and_eq_true] at c
            obtain ⟨a, ys, rfl, hq, rv⟩ := seq_of r ky hs
            refine .inl ⟨a, ys, rfl, hq, flat_of kx c.1, flats_of rv c.2, ?_⟩
            rw [inV_of kx c.1 rv c.2]
            have e' := Option.some.inj e
            rw [e', ← hf]
            exact z
          · rw [if_neg c] at e; cases e
  cases y with
  | v y =>
    cases y with
    | str t =>
      refine .inl ?_
      unfold inEv at e
      dsimp only at e
      split at e
      · rename_i c
        cases kx; cases ky
        have e' := Option.some.inj e
        exact ⟨c, t, rfl, rfl, by rw [e']; exact z⟩
      · cases e
    | _ => exact .inr (gen e)
  | w c p => exact .inr (gen e)
  | x c => exact .inr (gen e)
theorem ru_in : Ru2 G q (ev2 .in) (rOf G .in) := by
  intro px lam L h H Q Z x y u v r kx ky z
  have z : (match inEv x y h with | some k => Res.ok (MV.bl k) h | none => .bad).Post (Val G q L h H Q) Z := z
  cases e : inEv x y h with
  | none => rw [e] at z; exact z.elim
  | some k => rw [e] at z; exact in_core (f := id) (neg := false) (fun _ => rfl) r kx ky e (here_bl z r)
theorem ru_notin : Ru2 G q (ev2 .notin) (rOf G .notin) := by
  intro px lam L h H Q Z x y u v r kx ky z
  have z : (match inEv x y h with | some k => Res.ok (MV.bl !k) h | none => .bad).Post (Val G q L h H Q) Z := z
  cases e : inEv x y h with
  | none => rw [e] at z; exact z.elim
  | some k => rw [e] at z; exact in_core (f := fun b => !b) (neg := true) (fun b => by simp) r kx ky e (here_bl z r)
/-- all operators -/
theorem ru_all (o : B2) : Ru2 G q (ev2 o) (rOf G o) := by
  cases o
  · exact ru_add
  · exact ru_sub
  · exact ru_mul
  · exact ru_mod
  · exact ru_fdiv
  · exact ru_pow
  · exact ru_eq
  · exact ru_ne
  · exact ru_ltgt (.inl rfl)
  · exact ru_le
  · exact ru_ltgt (.inr rfl)
  · exact ru_ge
  · exact ru_is
  · exact ru_isnot
  · exact ru_in
  · exact ru_notin
end
end MP
set_option Elab.async false
set_option linter.all false
set_option autoImplicit false
set_option maxRecDepth 100000
set_option maxHeartbeats 4000000
/-! MP, part g: expressions: names, constants, operators, tests, lists of values. -/
namespace MP
open PySem PySem.Spec L2

/-! ### the shapes of expressions -/
/-- no star, no slice, no set, no comprehension of another kind, no super() -/
def okE : Expr → Bool
  | .Starred .. => false
  | .Set .. => false
  | .SetComp .. => false
  | .DictComp .. => false
  | .Slice .. => false
  | .Call (.Name id _) [] [] _ => id != "super"
  | _ => true
def noLc : Expr → Bool
  | .ListComp .. => false
  | _ => true
/-- its test is its value's truth -/
def plT : Expr → Bool
  | .UnaryOp .. => false
  | .BoolOp .. => false
  | .IfExp .. => false
  | .Compare .. => false
  | _ => true
theorem star_of {e : Expr} (h : okE e = true) (es : List Expr) (env : Env) : starEach (e :: es) env = (false, eval e env) :: starEach es env := by
  cases e <;> first | rfl | (simp [okE] at h; done)
theorem base_of {e : Expr} (h : okE e = true) (f : Str) (env : Env) (w : Sem Value) : attributeBase e f env w = w := by
  unfold attributeBase
  split
  · rename_i id _ _
    have h : (id != "super") = true := h
    rw [h]
    simp
  · rfl
theorem true_of {e : Expr} (h : plT e = true) (env : Env) (w : Sem Value) : isTrue e env w = (do let v ← w; standAt e.pos; holding [v] (truthy v)) := by
  cases e <;> first | rfl | (simp [plT] at h; done)
theorem swap_of {e : Expr} (h : okE e = true) (h2 : noLc e = true) (t : Option Expr) (n : Nat) (env : Env) : swapsWith e t n env = pure false := by
  cases e <;> first | rfl | (simp [okE] at h; done) | (simp [noLc] at h2; done)
theorem fold_of {e : Expr} (h : okE e = true) (env : Env) (x : Value) : foldedSetIterable e env x = pure x := by
  cases e <;> first | rfl | (simp [okE] at h; done)
theorem ix_of {e : Expr} (h : okE e = true) : PlainIx e := by
  intro o i
  cases e <;> first | rfl | (simp [okE] at h; done)
theorem mark_of {e : Expr} (h : okE e = true) (op : CmpOp) : behindInMarks op e = false := by
  cases e <;> first | rfl | (simp [okE] at h; done)
theorem any_of {e : Expr} (h : okE e = true) (env : Env) : (starEach [e] env).any (·.1) = false := by
  rw [star_of h]; rfl
theorem anys_of {env : Env} : ∀ {es : List Expr}, es.all okE = true → ∀ pos, (backTo pos (starEach es env)).any (·.1) = false
  | [], _, _ => rfl
  | e :: es, h, pos => by
    rw [List.all_cons, Bool.and_eq_true] at h
    rw [star_of h.1]
    have ih := anys_of (env := env) h.2 pos
    simpa [backTo] using ih

/-! ### readings -/
def rdT (G : Gb) (E : Ent) (W : WX) (q : Bool) (m : ML → MH → Res Bool) : TT := fun σ H Q => ∃ L lam σm h, Pt G E L lam σm h σ H ∧ (m σm h).Post (fun b h' => ∀ L' H', Step G q L h H L' h' H' → Q b H') (Rai G L h H W σ)
def rdA (G : Gb) (E : Ent) (W : WX) (q : Bool) (m : ML → MH → Res (List MV)) : TA := fun σ H Q => ∃ L lam σm h, Pt G E L lam σm h σ H ∧ (m σm h).Post (fun vs h' => ∀ L' H' xs, Step G q L h H L' h' H' → VRs G L' h'.length vs xs → Q xs H') (Rai G L h H W σ)
inductive ERs (G : Gb) (px : Addr → Nat → Prop) (L : Lay) (b : Nat) (H : Hp) (lam : Nat → Option Addr) : List EV → List V → Prop
  | nil : ERs G px L b H lam [] []
  | cons {e : EV} {x : V} {es : List EV} {xs : List V} : ER G px L b H lam e x → ERs G px L b H lam es xs → ERs G px L b H lam (e :: es) (x :: xs)
def rdX (G : Gb) (E : Ent) (W : WX) (q : Bool) (m : ML → MH → Res (List EV)) : TA := fun σ H Q => ∃ L lam σm h, Pt G E L lam σm h σ H ∧ (m σm h).Post (fun vs h' => ∀ L' H' xs, Step G q L h H L' h' H' → ERs G E.px L' h'.length H' lam vs xs → Q xs H') (Rai G L h H W σ)
def rdO (G : Gb) (E : Ent) (W : WX) (q : Bool) (m : ML → MH → Res (Option Int)) : TO := fun σ H Q => ∃ L lam σm h, Pt G E L lam σm h σ H ∧ (m σm h).Post (fun o h' => ∀ L' H', Step G q L h H L' h' H' → Q o H') (Rai G L h H W σ)

section
variable {G : Gb} {E : Ent} {W : WX} {q qa qb : Bool} {L : Lay} {lam : Nat → Option Addr} {σm : ML} {h : MH} {σ : L2.St} {H : Hp} {Q : VK}
theorem ERs.length {px : Addr → Nat → Prop} {b : Nat} : ∀ {es : List EV} {xs : List V}, ERs G px L b H lam es xs → es.length = xs.length
  | _, _, .nil => rfl
  | _, _, .cons _ t => congrArg Nat.succ (ERs.length t)
/-- an expression, then what follows -/
theorem rd_seq {α : Type} {a : EE} {f : EV → MH → Res α} {P : α → MH → Prop} (p : Pt G E L lam σm h σ H) (z : ((a σm h).bind f).Post P (Rai G L h H W σ))
    (k : ∀ x h1 L1 H1 u, a σm h = .ok x h1 → Step G qa L h H L1 h1 H1 → ER G E.px L1 h1.length H1 lam x u → (f x h1).Post P (Rai G L1 h1 H1 W σ) → Q u H1) : rd G E W qa a σ H Q := by
  refine ⟨L, lam, σm, h, p, ?_⟩
  cases ea : a σm h with
  | bad => rw [ea] at z; exact z
  | exc c k => rw [ea] at z; exact z
  | ok x h1 =>
    rw [ea] at z
    exact fun L1 H1 u s1 r1 => k x h1 L1 H1 u ea s1 r1 (Post.imp z (fun _ _ z => z) fun _ _ z => Rai.at s1 z)
/-- .. a value -/
theorem rd_vb {α : Type} {a : EE} {f : MV → MH → Res α} {P : α → MH → Prop} (p : Pt G E L lam σm h σ H) (z : ((a σm h).vb f).Post P (Rai G L h H W σ))
    (k : ∀ x h1 L1 H1 u, a σm h = .ok (.v x) h1 → Step G qa L h H L1 h1 H1 → VR G L1 h1.length x u → (f x h1).Post P (Rai G L1 h1 H1 W σ) → Q u H1) : rd G E W qa a σ H Q :=
  rd_seq p z fun x h1 L1 H1 u ea s1 r1 z1 => by
    cases x with
    | v x => exact k x h1 L1 H1 u ea s1 r1 z1
    | w c p => exact z1.elim
    | x c => exact z1.elim
theorem rdT_seq {α : Type} {Q : Bool → Hp → Prop} {m : ML → MH → Res Bool} {f : Bool → MH → Res α} {P : α → MH → Prop} (p : Pt G E L lam σm h σ H) (z : ((m σm h).bind f).Post P (Rai G L h H W σ))
    (k : ∀ b h1 L1 H1, m σm h = .ok b h1 → Step G qa L h H L1 h1 H1 → (f b h1).Post P (Rai G L1 h1 H1 W σ) → Q b H1) : rdT G E W qa m σ H Q := by
  refine ⟨L, lam, σm, h, p, ?_⟩
  cases ea : m σm h with
  | bad => rw [ea] at z; exact z
  | exc c k => rw [ea] at z; exact z
  | ok x h1 =>
    rw [ea] at z
    exact fun L1 H1 s1 => k x h1 L1 H1 ea s1 (Post.imp z (fun _ _ z => z) fun _ _ z => Rai.at s1 z)
theorem rdA_seq {α : Type} {Q : List V → Hp → Prop} {m : ML → MH → Res (List MV)} {f : List MV → MH → Res α} {P : α → MH → Prop} (p : Pt G E L lam σm h σ H) (z : ((m σm h).bind f).Post P (Rai G L h H W σ))
    (k : ∀ b h1 L1 H1 xs, m σm h = .ok b h1 → Step G qa L h H L1 h1 H1 → VRs G L1 h1.length b xs → (f b h1).Post P (Rai G L1 h1 H1 W σ) → Q xs H1) : rdA G E W qa m σ H Q := by
  refine ⟨L, lam, σm, h, p, ?_⟩
  cases ea : m σm h with
  | bad => rw [ea] at z; exact z
  | exc c k => rw [ea] at z; exact z
  | ok x h1 =>
    rw [ea] at z
    exact fun L1 H1 xs s1 r1 => k x h1 L1 H1 xs ea s1 r1 (Post.imp z (fun _ _ z => z) fun _ _ z => Rai.at s1 z)
theorem rdX_seq {α : Type} {Q : List V → Hp → Prop} {m : ML → MH → Res (List EV)} {f : List EV → MH → Res α} {P : α → MH → Prop} (p : Pt G E L lam σm h σ H) (z : ((m σm h).bind f).Post P (Rai G L h H W σ))
    (k : ∀ b h1 L1 H1 xs, m σm h = .ok b h1 → Step G qa L h H L1 h1 H1 → ERs G E.px L1 h1.length H1 lam b xs → (f b h1).Post P (Rai G L1 h1 H1 W σ) → Q xs H1) : rdX G E W qa m σ H Q := by
  refine ⟨L, lam, σm, h, p, ?_⟩
  cases ea : m σm h with
  | bad => rw [ea] at z; exact z
  | exc c k => rw [ea] at z; exact z
  | ok x h1 =>
    rw [ea] at z
    exact fun L1 H1 xs s1 r1 => k x h1 L1 H1 xs ea s1 r1 (Post.imp z (fun _ _ z => z) fun _ _ z => Rai.at s1 z)
theorem rdO_seq {α : Type} {Q : Option Int → Hp → Prop} {m : ML → MH → Res (Option Int)} {f : Option Int → MH → Res α} {P : α → MH → Prop} (p : Pt G E L lam σm h σ H) (z : ((m σm h).bind f).Post P (Rai G L h H W σ))
    (k : ∀ b h1 L1 H1, m σm h = .ok b h1 → Step G qa L h H L1 h1 H1 → (f b h1).Post P (Rai G L1 h1 H1 W σ) → Q b H1) : rdO G E W qa m σ H Q := by
  refine ⟨L, lam, σm, h, p, ?_⟩
  cases ea : m σm h with
  | bad => rw [ea] at z; exact z
  | exc c k => rw [ea] at z; exact z
  | ok x h1 =>
    rw [ea] at z
    exact fun L1 H1 s1 => k x h1 L1 H1 ea s1 (Post.imp z (fun _ _ z => z) fun _ _ z => Rai.at s1 z)
theorem Evs.here {px : Addr → Nat → Prop} {e : EV} {x : V} (z : Evs G px lam q L h H Q e h) (r : HR G L h H) (k : ER G px L h.length H lam e x) : Q x H := z L H x (Step.refl r) k
/-- where the step is as quiet as wanted -/
theorem Evs.of {px : Addr → Nat → Prop} {e : EV} {h1 : MH} {L1 : Lay} {H1 : Hp} {x : V} (z : Evs G px lam q L h H Q e h1) (s : Step G qa L h H L1 h1 H1) (i : q = true → qa = true) (k : ER G px L1 h1.length H1 lam e x) : Q x H1 := z L1 H1 x (s.weak i) k
end

/-! ### quiet expressions; those that don't see a field's container -/
def Ex.nofld : Ex → Bool
  | .fld .. => false
  | .and _ => false
  | .or _ => false
  | .ife .. => false
  | _ => true
section
variable {T : Tb} {call : Nat → List MV → MH → Res MV}
theorem vb_nofld {r : Res EV} {f : MV → MH → Res EV} {x : EV} {h' : MH} (hf : ∀ v h, f v h = .ok x h' → x.isFld = false) (e : r.vb f = .ok x h') : x.isFld = false := by
  cases r with
  | ok a h =>
    cases a with
    | v v => exact hf v h e
    | w c p => cases e
    | x c => cases e
  | exc c h => cases e
  | bad => cases e
theorem bind_nofld {α : Type} {r : Res α} {f : α → MH → Res EV} {x : EV} {h' : MH} (hf : ∀ v h, f v h = .ok x h' → x.isFld = false) (e : r.bind f = .ok x h') : x.isFld = false := by
  cases r with
  | ok a h => exact hf a h e
  | exc c h => cases e
  | bad => cases e
theorem ok_v {r : Res EV} {v : MV} {h h' : MH} {x : EV} (e : (Res.ok (EV.v v) h : Res EV) = .ok x h') : x.isFld = false := by
  cases e; rfl
theorem nofld_of : ∀ {e : Ex}, e.nofld = true → ∀ (σ : ML) (h : MH) (x : EV) (h' : MH), den T call e σ h = .ok x h' → x.isFld = false := by
  intro e hn σ h x h' he
  cases e with
  | fld a f => cases hn
  | and es => cases hn
  | or es => cases hn
  | ife c a b => cases hn
  | var i =>
    rw [den] at he
    dsimp only at he
    split at he <;> first | (cases he; rfl) | cases he
  | non => rw [den] at he; cases he; rfl
  | bl => rw [den] at he; cases he; rfl
  | int => rw [den] at he; cases he; rfl
  | str => rw [den] at he; cases he; rfl
  | gl => rw [den] at he; cases he; rfl
  | op => rw [den] at he; exact bind_nofld (fun _ _ e => bind_nofld (fun _ _ e => bind_nofld (fun _ _ e => ok_v (r := .bad) e) e) e) he
  | neg => rw [den] at he; exact vb_nofld (fun v h e => by split at e <;> first | exact ok_v (r := .bad) e | cases e) he
  | not => rw [den] at he; exact bind_nofld (fun _ _ e => ok_v (r := .bad) e) he
  | chain => rw [den] at he; exact bind_nofld (fun _ _ e => bind_nofld (fun _ _ e => bind_nofld (fun v h e => by split at e <;> first | exact bind_nofld (fun _ _ e => bind_nofld (fun _ _ e => ok_v (r := .bad) e) e) e | exact ok_v (r := .bad) e | cases e) e) e) he
  | tup => rw [den] at he; exact bind_nofld (fun v h e => by split at e <;> first | exact ok_v (r := .bad) e | cases e) he
  | fz => rw [den] at he; exact bind_nofld (fun v h e => by split at e <;> first | exact ok_v (r := .bad) e | cases e) he
  | cl => rw [den] at he; exact bind_nofld (fun v h e => ok_v (r := .bad) e) he
  | ix => rw [den] at he; exact bind_nofld (fun _ _ e => bind_nofld (fun _ _ e => bind_nofld (fun _ _ e => ok_v (r := .bad) e) e) e) he
  | sl => rw [den] at he; exact bind_nofld (fun _ _ e => bind_nofld (fun _ _ e => bind_nofld (fun _ _ e => bind_nofld (fun _ _ e => ok_v (r := .bad) e) e) e) e) he
  | call => rw [den] at he; exact bind_nofld (fun _ _ e => bind_nofld (fun _ _ e => ok_v (r := .bad) e) e) he
  | meth => rw [den] at he; exact vb_nofld (fun v h e => by split at e <;> first | exact bind_nofld (fun _ _ e => bind_nofld (fun _ _ e => ok_v (r := .bad) e) e) e | cases e) he
  | make => rw [den] at he; exact bind_nofld (fun _ _ e => by split at e <;> first | exact bind_nofld (fun v h e => by split at e <;> first | exact ok_v (r := .bad) e | cases e) e | cases e) he
  | bi => rw [den] at he; exact bind_nofld (fun _ _ e => bind_nofld (fun _ _ e => ok_v (r := .bad) e) e) he
  | join => rw [den] at he; exact vb_nofld (fun v h e => by split at e <;> first | exact bind_nofld (fun _ _ e => bind_nofld (fun _ _ e => ok_v (r := .bad) e) e) e | cases e) he
  | isx => rw [den] at he; dsimp only at he; split at he <;> first | (split at he <;> first | (cases he; rfl) | cases he) | cases he
  | lenO => rw [den] at he; exact vb_nofld (fun v h e => by split at e <;> first | exact bind_nofld (fun v h e => by split at e <;> first | (split at e <;> first | exact ok_v (r := .bad) e | cases e) | cases e) e | cases e) he
end

/-! ### the rules -/
section
variable {T : Tb} {call : Nat → List MV → MH → Res MV} {G : Gb} {E : Ent} {W : WX} {X : Cx} {q qa qb : Bool} {pos : Pos}
theorem mp_var {i : Nat} {x : Str} (hN : X.N[i]? = some x) (hv : Vis X.env.scope x) (hd : (x == ("__debug__" : Str)) = false) (hc : (x == ("__classdict__" : Str)) = false) : PE X (.Name x pos) (rd G E W q (den T call (.var i))) :=
  (pe_var hN hv hd hc).imp fun σ H Q ⟨L, lam, σm, h, p, z⟩ => by
    rw [den] at z
    dsimp only at z
    cases e : σm[i]? with
    | none => rw [e] at z; exact z.elim
    | some v =>
      obtain ⟨o, eo, so⟩ := p.at e
      rw [e] at z
      cases v with
      | un => exact z.elim
      | val v =>
        obtain ⟨u, rfl, ru⟩ := so
        exact ⟨u, eo, Evs.here z p.hr ru⟩
      | own c =>
        obtain ⟨a, u, rfl, r⟩ := so
        exact ⟨_, eo, Evs.here z p.hr ⟨a, u, rfl, r⟩⟩
      | exc c =>
        obtain ⟨a, rfl, r⟩ := so
        exact ⟨_, eo, Evs.here z p.hr ⟨a, rfl, r⟩⟩
theorem mp_non {j pos} : PE X (.Constant .none j pos) (rd G E W q (den T call .non)) :=
  pe_non.imp fun σ H Q ⟨L, lam, σm, h, p, z⟩ => Evs.here (e := .v .non) (by rw [den] at z; exact z) p.hr VR.non
theorem mp_bl {k j pos} : PE X (.Constant (.bool k) j pos) (rd G E W q (den T call (.bl k))) :=
  pe_bl.imp fun σ H Q ⟨L, lam, σm, h, p, z⟩ => Evs.here (e := .v (.bl k)) (by rw [den] at z; exact z) p.hr (VR.bl k)
theorem mp_int {i j pos} : PE X (.Constant (.int i) j pos) (rd G E W q (den T call (.int i))) :=
  pe_int.imp fun σ H Q ⟨L, lam, σm, h, p, z⟩ => Evs.here (e := .v (.int i)) (by rw [den] at z; exact z) p.hr (VR.int i)
theorem mp_str {s : String} {x : Str} {j pos} (e : x = s) : PE X (.Constant (.str x) j pos) (rd G E W q (den T call (.str s))) := by
  subst e
  exact pe_str.imp fun σ H Q ⟨L, lam, σm, h, p, z⟩ => Evs.here (e := .v (.str _)) (by rw [den] at z; exact z) p.hr (VR.str _)
/-- what a global name holds: a value that is there from the start -/
def Glob (G : Gb) (X : Cx) (x : Str) (v : MV) : Prop := ∃ u y, RelV y u ∧ (∀ L b, VR G L b v y) ∧ (x == ("__debug__" : Str)) = false ∧ (X.mg x = some u ∨ (X.mg x = none ∧ bootBuiltins x = some u ∧ x ≠ "__name__"))
theorem mp_gl {x : Str} {s : String} {v : MV} (hg : Gl X x) (g : Glob G X x v) : PE X (.Name x pos) (rd G E W q (den T call (.gl s v))) := by
  obtain ⟨u, y, r, k, hd, hm | ⟨hm, hb, hn⟩⟩ := g
  · exact (pe_glob hg hm r hd).imp fun σ H Q ⟨L, lam, σm, h, p, z⟩ => Evs.here (e := .v v) (by rw [den] at z; exact z) p.hr (k _ _)
  · exact (pe_bltn hg hm hb r hn hd).imp fun σ H Q ⟨L, lam, σm, h, p, z⟩ => Evs.here (e := .v v) (by rw [den] at z; exact z) p.hr (k _ _)
theorem rd_op {o : B2} {ea eb : Ex} (nf : ea.nofld = true ∨ qb = true) (ia : q = true → qa = true) (ib : q = true → qb = true) {σ : L2.St} {H : Hp} {Q : VK} (z : rd G E W q (den T call (.op o ea eb)) σ H Q) :
    tOp (rOf G o) (rd G E W qa (den T call ea)) (rd G E W qb (den T call eb)) σ H Q := by
  have z' : rd G E W q (fun s h => (den T call ea s h).bind fun x h1 => (den T call eb s h1).bind fun y h2 => (ev2 o x y h2).bind fun v h3 => .ok (.v v) h3) σ H Q := by
    obtain ⟨L, lam, σm, h, p, z⟩ := z
    rw [den] at z
    exact ⟨L, lam, σm, h, p, z⟩
  exact rd2 (ru_all o) (nf.elim (fun n => .inr (nofld_of n)) .inl) ia ib z'
theorem mp_bin (O : Ops G X) {o : B2} {op : Operator} (e : o.bin = some op) {a b : Expr} {ea eb : Ex} (ha : PE X a (rd G E W qa (den T call ea))) (hb : PE X b (rd G E W qb (den T call eb))) (nf : ea.nofld = true ∨ qb = true) (ia : q = true → qa = true) (ib : q = true → qb = true) :
    PE X (.BinOp a op b pos) (rd G E W q (den T call (.op o ea eb))) := (pe_op (opr_bin O e) ha hb).imp fun _ _ _ z => rd_op nf ia ib z
theorem mp_cmp (O : Ops G X) {o : B2} {op : CmpOp} (e : o.cmp = some op) {a b : Expr} {ea eb : Ex} (ha : PE X a (rd G E W qa (den T call ea))) (hb : PE X b (rd G E W qb (den T call eb))) (okb : okE b = true) (nf : ea.nofld = true ∨ qb = true) (ia : q = true → qa = true) (ib : q = true → qb = true) :
    PE X (.Compare a [op] [b] pos) (rd G E W q (den T call (.op o ea eb))) := (pe_cmpR (opr_cmp O e) ha hb (mark_of okb op)).imp fun _ _ _ z => rd_op nf ia ib z
/-- a test of a value -/
theorem truth_of {px : Addr → Nat → Prop} {lam : Nat → Option Addr} {L : Lay} {h : MH} {H : Hp} (r : HR G L h H) {e : EV} {u : V} {k : Bool} (ke : ER G px L h.length H lam e u) (z : truth e h = some k) : TruV G.K u H k := by
  have gen : (match seqOf e h with
    | some xs => some (!xs.isEmpty)
    | none => none) = some k → TruV G.K u H k := fun z => by
    cases hs : seqOf e h with
    | none => rw [hs] at z; cases z
    | some xs =>
      rw [hs] at z
      obtain ⟨a, ys, rfl, hq, rv⟩ := seq_of r ke hs
      have ee : (!xs.isEmpty) = !ys.isEmpty := by cases rv <;> rfl
      have e' := Option.some.inj z
      rcases hq with hq | hq
      · exact .inl ⟨ys, hq, by rw [← ee, e']⟩
      · exact .inr (.inl ⟨ys, hq, by rw [← ee, e']⟩)
  cases e with
  | w c p => exact gen z
  | x c => exact gen z
  | v x =>
    cases x with
    | bl b => cases ke; cases z; rfl
    | non => cases ke; cases z; rfl
    | int i => cases ke; cases z; rfl
    | str s =>
      cases ke
      have z : (if s.length ≤ sizeLine then some (s.length != 0) else none) = some k := z
      by_cases c : s.length ≤ sizeLine
      · rw [if_pos c] at z; cases z
        refine ⟨c, ?_⟩
        by_cases c0 : s.length = 0
        · simp [c0]
        · have : ((s.length : Int) != 0) = true := by simp [c0]
          rw [this]; simp [c0]
      · rw [if_neg c] at z; cases z
    | _ => exact gen z
theorem rd_bool {m : EE} {σ : L2.St} {H : Hp} {Q : Bool → Hp → Prop} (z : rdT G E W q (fun s h => (m s h).bool) σ H Q) : rd G E W q m σ H fun u H' => ∃ k, TruV G.K u H' k ∧ Q k H' := by
  obtain ⟨L, lam, σm, h, p, z⟩ := z
  refine rd_seq p z fun x h1 L1 H1 u ea s1 r1 z1 => ?_
  cases e : truth x h1 with
  | none => rw [e] at z1; exact z1.elim
  | some k =>
    rw [e] at z1
    exact ⟨k, truth_of s1.hr r1 e, z1 L1 H1 s1⟩
theorem mpt_plain (O : Ops G X) {e : Expr} {m : EE} (he : PE X e (rd G E W q m)) (hp : plT e = true) : PT X e (rdT G E W q fun s h => (m s h).bool) :=
  (pt_truth he (true_of hp X.env)).imp fun σ H Q z => by
    have z := rd_bool z
    rw [← O.K] at z
    exact z
end
end MP
set_option Elab.async false
set_option linter.all false
set_option autoImplicit false
set_option maxRecDepth 100000
set_option maxHeartbeats 4000000
/-! MP, part h: more expressions: tests, chains, lists of values, tuples, fields, items, slices, joins. -/
namespace MP
open PySem PySem.Spec L2

/-! ### fields by name -/
theorem str_inj {a b : String} (e : Str.ofString a = Str.ofString b) : a = b := by
  rw [Str.ofString_eq_toList, Str.ofString_eq_toList] at e
  have e1 : (a.toList.map Char.toNat).toArray = (b.toList.map Char.toNat).toArray := congrArg Str.cps e
  have e2 : a.toList.map Char.toNat = b.toList.map Char.toNat := by simpa using congrArg Array.toList e1
  have inj : ∀ {x y : List Char}, x.map Char.toNat = y.map Char.toNat → x = y := by
    intro x
    induction x with
    | nil => intro y h; cases y with
      | nil => rfl
      | cons _ _ => cases h
    | cons c x ih => intro y h; cases y with
      | nil => cases h
      | cons d y =>
        rw [List.map_cons, List.map_cons] at h
        injection h with h1 h2
        rw [Char.toNat_inj.mp h1, ih h2]
  exact String.ext (inj e2)
theorem str_beq (a b : String) : (Str.ofString a == Str.ofString b) = (a == b) := by
  by_cases e : a = b
  · subst e; rw [beq_self_eq_true, beq_self_eq_true]
  · have h : ¬ Str.ofString a = Str.ofString b := fun z => e (str_inj z)
    rw [beq_eq_false_iff_ne.mpr h, beq_eq_false_iff_ne.mpr e]
section
variable {G : Gb} {L : Lay} {b n : Nat} {H : Hp}
theorem FdsR.get {f : String} {d : Fd} : ∀ {fs : List (String × Fd)} {ys : List (Str × V)}, FdsR G L b H n fs ys → getF fs f = some d → ∃ x, ys.lookup (Str.ofString f) = some x ∧ FdR G L b H n f d x
  | _, _, .nil, e => by simp [getF] at e
  | _, _, .cons (f := g) (d := c) (x := x) r t, e => by
    unfold getF at e
    rw [List.lookup_cons] at e
    rw [List.lookup_cons, str_beq]
    cases q : f == g with
    | true =>
      rw [q] at e
      have e1 : f = g := by simpa using q
      subst e1
      cases e
      exact ⟨x, rfl, r⟩
    | false =>
      rw [q] at e
      exact FdsR.get t e
theorem FdsR.none {f : String} : ∀ {fs : List (String × Fd)} {ys : List (Str × V)}, FdsR G L b H n fs ys → getF fs f = Option.none → ys.lookup (Str.ofString f) = Option.none
  | _, _, .nil, _ => rfl
  | _, _, .cons (f := g) (d := c) (x := x) r t, e => by
    unfold getF at e
    rw [List.lookup_cons] at e
    rw [List.lookup_cons, str_beq]
    cases q : f == g with
    | true => rw [q] at e; cases e
    | false => rw [q] at e; exact FdsR.none t e
theorem zip_get {f : String} {v : MV} : ∀ {fs : List String} {vs : List MV} {ys : List V}, fs.length = ys.length → VRs G L b vs ys → (fs.zip vs).lookup f = some v → ∃ x, ((fs.map Str.ofString).zip ys).lookup (Str.ofString f) = some x ∧ VR G L b v x
  | [], _, _, _, _, e => by simp at e
  | g :: fs, w :: vs, x :: ys, hl, .cons r t, e => by
    rw [List.zip_cons_cons, List.lookup_cons] at e
    rw [List.map_cons, List.zip_cons_cons, List.lookup_cons, str_beq]
    cases q : f == g with
    | true => rw [q] at e; cases e; exact ⟨x, rfl, r⟩
    | false => rw [q] at e; exact zip_get (by simpa using hl) t e
  | _ :: _, _, [], hl, .nil, _ => by simp at hl
theorem zip_none {f : String} : ∀ {fs : List String} {vs : List MV} {ys : List V}, fs.length = ys.length → VRs G L b vs ys → (fs.zip vs).lookup f = none → ((fs.map Str.ofString).zip ys).lookup (Str.ofString f) = none
  | [], _, _, _, _, _ => by simp
  | g :: fs, w :: vs, x :: ys, hl, .cons r t, e => by
    rw [List.zip_cons_cons, List.lookup_cons] at e
    rw [List.map_cons, List.zip_cons_cons, List.lookup_cons, str_beq]
    cases q : f == g with
    | true => rw [q] at e; cases e
    | false => rw [q] at e; exact zip_none (by simpa using hl) t e
  | _ :: _, _, [], hl, .nil, _ => by simp at hl
end

/-- what is asked of the table of classes -/
structure TbOk (G : Gb) (T : Tb) : Prop where
  fld : ∀ c f, T.fld c f = true → Cls G.K (G.ca c) ∧ NoAttr G.K (G.ca c) (Str.ofString f)
  meth : ∀ c m f, T.meth c m = some f → Cls G.K (G.ca c) ∧ Meth G.K (G.ca c) (Str.ofString m) (G.fa f)
  init : ∀ c f, T.init c = some f → Mk G.K (G.ca c) (G.fa f)

section
variable {T : Tb} {call : Nat → List MV → MH → Res MV} {G : Gb} {E : Ent} {W : WX} {X : Cx} {q qa qb qc : Bool} {pos : Pos} {a b c : Expr} {ea eb ec : Ex}
theorem cmp_bl {o : B2} {op : CmpOp} (e : o.cmp = some op) {x y : EV} {h h' : MH} {v : MV} (z : ev2 o x y h = .ok v h') : ∃ k, v = .bl k := by
  have fin : ∀ {k : Bool} {h : MH}, (Res.ok (MV.bl k) h : Res MV) = .ok v h' → ∃ k, v = .bl k := fun e => by cases e; exact ⟨_, rfl⟩
  have op2 : ∀ {r : EV → EV → Res MV}, (∀ x y v h', r x y = .ok v h' → ∃ k, v = .bl k) → r x y = .ok v h' → ∃ k, v = .bl k := fun hr z => hr _ _ _ _ z
  cases o <;> simp only [B2.cmp, reduceCtorEq] at e
  · unfold ev2 at z; dsimp only at z
    split at z
    · split at z
      · exact fin z
      · cases z
    · cases z
  · unfold ev2 at z; dsimp only at z
    split at z
    · split at z
      · exact fin z
      · cases z
    · cases z
  all_goals first
    | (unfold ev2 at z; dsimp only at z; (repeat' split at z) <;> first | exact fin z | cases z)
    | (rcases x with x | ⟨_, _⟩ | _ <;> rcases y with y | ⟨_, _⟩ | _ <;> (try cases x) <;> (try cases y) <;> first | exact fin z | cases z)
theorem rd_test {o : B2} {op : CmpOp} (e : o.cmp = some op) (nf : ea.nofld = true ∨ qb = true) (ia : q = true → qa = true) (ib : q = true → qb = true) {σ : L2.St} {H : Hp} {Q : Bool → Hp → Prop} (z : rdT G E W q (fun s h => (den T call (.op o ea eb) s h).bool) σ H Q) :
    tTest (tOp (rOf G o) (rd G E W qa (den T call ea)) (rd G E W qb (den T call eb))) σ H Q := by
  refine rd_op (q := q) nf ia ib ?_
  obtain ⟨L, lam, σm, h, p, z⟩ := z
  refine ⟨L, lam, σm, h, p, ?_⟩
  have z2 := Post.bind z
  cases er : den T call (.op o ea eb) σm h with
  | bad => rw [er] at z2; exact z2
  | exc c k => rw [er] at z2; exact z2
  | ok x h1 =>
    rw [er] at z2
    have hx : ∃ k, x = .v (.bl k) := by
      rw [den] at er
      dsimp only at er
      cases e1 : den T call ea σm h with
      | bad => rw [e1] at er; cases er
      | exc _ _ => rw [e1] at er; cases er
      | ok x1 h2 =>
        rw [e1, bind_ok] at er
        cases e2 : den T call eb σm h2 with
        | bad => rw [e2] at er; cases er
        | exc _ _ => rw [e2] at er; cases er
        | ok x2 h3 =>
          rw [e2, bind_ok] at er
          cases e3 : ev2 o x1 x2 h3 with
          | bad => rw [e3] at er; cases er
          | exc _ _ => rw [e3] at er; cases er
          | ok v h4 =>
            rw [e3, bind_ok] at er
            cases er
            obtain ⟨k, rfl⟩ := cmp_bl e e3
            exact ⟨k, rfl⟩
    obtain ⟨k, rfl⟩ := hx
    intro L1 H1 u s1 r1
    cases r1
    exact ⟨k, rfl, z2 L1 H1 s1⟩
theorem mpt_cmp (O : Ops G X) {o : B2} {op : CmpOp} (e : o.cmp = some op) (ha : PE X a (rd G E W qa (den T call ea))) (hb : PE X b (rd G E W qb (den T call eb))) (okb : okE b = true) (nf : ea.nofld = true ∨ qb = true) (ia : q = true → qa = true) (ib : q = true → qb = true) :
    PT X (.Compare a [op] [b] pos) (rdT G E W q fun s h => (den T call (.op o ea eb) s h).bool) := (pt_cmpR (opr_cmp O e) ha hb (mark_of okb op)).imp fun _ _ _ z => rd_test e nf ia ib z
theorem bind_assoc {α β γ : Type} (r : Res α) (f : α → MH → Res β) (g : β → MH → Res γ) : (r.bind f).bind g = r.bind fun x h => (f x h).bind g := by
  cases r <;> rfl
theorem mpt_not (ha : PT X a (rdT G E W q fun s h => (den T call ea s h).bool)) : PT X (.UnaryOp .Not a pos) (rdT G E W q fun s h => (den T call (.not ea) s h).bool) :=
  (pt_not ha).imp fun σ H Q ⟨L, lam, σm, h, p, z⟩ => by
    dsimp only at z
    rw [den] at z
    dsimp only at z
    unfold Res.bool at z
    rw [bind_assoc] at z
    exact rdT_seq (m := fun s h => (den T call ea s h).bool) p z fun k h1 L1 H1 e1 s1 z1 => z1 L1 H1 s1
theorem mp_not (O : Ops G X) (ha : PE X a (rd G E W q (den T call ea))) : PE X (.UnaryOp .Not a pos) (rd G E W q (den T call (.not ea))) :=
  (pe_notT ha).imp fun σ H Q ⟨L, lam, σm, h, p, z⟩ => by
    rw [den] at z
    dsimp only at z
    have z2 : rdT G E W q (fun s h => (den T call ea s h).bool) σ H fun k H1 => Q (.bl (!k)) H1 := rdT_seq p z fun k h1 L1 H1 ea s1 z1 => Evs.of z1 s1 (fun e => e) (.bl _)
    have z3 := rd_bool z2
    rw [← O.K] at z3
    exact z3
end
end MP
set_option Elab.async false
set_option linter.all false
set_option autoImplicit false
set_option maxRecDepth 100000
set_option maxHeartbeats 4000000
/-! MP, part i: expressions: and, or, lists of values, tuples, fields, items, slices, joins. -/
namespace MP
open PySem PySem.Spec L2
section
variable {T : Tb} {call : Nat → List MV → MH → Res MV} {G : Gb} {E : Ent} {W : WX} {X : Cx} {q qa qb qc : Bool} {pos p2 : Pos} {a b c : Expr} {ea eb ec : Ex} {es : List Expr} {xs : Exs}
theorem denAnd_cc : denAnd T call (.cons ea (.cons eb xs)) = fun σ h => (den T call ea σ h).vb fun x h1 => match x with
    | .bl true => denAnd T call (.cons eb xs) σ h1
    | .bl false => .ok (.v (.bl false)) h1
    | _ => .bad := by
  rw [denAnd]
  all_goals first | rfl | (intro e; cases e)
theorem denOr_cc : denOr T call (.cons ea (.cons eb xs)) = fun σ h => (den T call ea σ h).vb fun x h1 => match x with
    | .bl false => denOr T call (.cons eb xs) σ h1
    | .bl true => .ok (.v (.bl true)) h1
    | _ => .bad := by
  rw [denOr]
  all_goals first | rfl | (intro e; cases e)
theorem truth_bl {k : Bool} {h : MH} : truth (.v (.bl k)) h = some k := rfl
/-! and, or as tests -/
theorem mpw_one {op : BoolOp} {den1 : Exs → EE} (h1 : den1 (.cons ea .nil) = den T call ea) (ho : op = .And ∨ op = .Or) (ha : PT X a (rdT G E W q fun s h => (den T call ea s h).bool)) : PW X (.BoolOp op [a] pos) (rdT G E W q fun s h => (den1 (.cons ea .nil) s h).bool) := by
  rw [h1]
  rcases ho with rfl | rfl
  · exact pw_and1 ha
  · exact pw_or1 ha
theorem mpw_and {rest : List Expr} (ha : PT X a (rdT G E W q fun s h => (den T call ea s h).bool)) (hb : PW X (.BoolOp .And (b :: rest) pos) (rdT G E W q fun s h => (denAnd T call (.cons eb xs) s h).bool)) :
    PW X (.BoolOp .And (a :: b :: rest) pos) (rdT G E W q fun s h => (denAnd T call (.cons ea (.cons eb xs)) s h).bool) := by
  refine ⟨fun wh pins s σ H Q I z => (pw_and ha hb).run wh pins s σ H Q I ?_⟩
  obtain ⟨L, lam, σm, h, p, z⟩ := z
  dsimp only at z
  rw [denAnd_cc] at z
  dsimp only at z
  unfold Res.vb at z
  have z0 := z
  unfold Res.bool at z
  rw [bind_assoc] at z
  refine ⟨L, lam, σm, h, p, ?_⟩
  dsimp only
  cases e1 : den T call ea σm h with
  | bad => rw [e1] at z; exact z
  | exc c k => rw [e1] at z; exact z
  | ok x h1 =>
    rw [e1] at z
    cases x with
    | w c p => exact z.elim
    | x c => exact z.elim
    | v x =>
      cases x with
      | bl k =>
        intro L1 H1 s1
        cases k with
        | false => rw [if_neg Bool.false_ne_true]; exact z L1 H1 s1
        | true =>
          rw [if_pos rfl]
          have z : (denAnd T call (.cons eb xs) σm h1).bool.Post (fun b h' => ∀ L' H', Step G q L h H L' h' H' → Q b H') (Rai G L h H W σ) := z
          exact ⟨L1, lam, σm, h1, p.step s1, Post.imp z (fun k h2 z2 L2 H2 s2 => z2 L2 H2 (s1.trans s2)) fun _ _ z => Rai.at s1 z⟩
      | _ => exact z.elim
theorem mpw_or {rest : List Expr} (ha : PT X a (rdT G E W q fun s h => (den T call ea s h).bool)) (hb : PW X (.BoolOp .Or (b :: rest) pos) (rdT G E W q fun s h => (denOr T call (.cons eb xs) s h).bool)) :
    PW X (.BoolOp .Or (a :: b :: rest) pos) (rdT G E W q fun s h => (denOr T call (.cons ea (.cons eb xs)) s h).bool) := by
  refine ⟨fun wh pins s σ H Q I z => (pw_or ha hb).run wh pins s σ H Q I ?_⟩
  obtain ⟨L, lam, σm, h, p, z⟩ := z
  dsimp only at z
  rw [denOr_cc] at z
  dsimp only at z
  unfold Res.vb at z
  unfold Res.bool at z
  rw [bind_assoc] at z
  refine ⟨L, lam, σm, h, p, ?_⟩
  dsimp only
  cases e1 : den T call ea σm h with
  | bad => rw [e1] at z; exact z
  | exc c k => rw [e1] at z; exact z
  | ok x h1 =>
    rw [e1] at z
    cases x with
    | w c p => exact z.elim
    | x c => exact z.elim
    | v x =>
      cases x with
      | bl k =>
        intro L1 H1 s1
        cases k with
        | true => rw [if_pos rfl]; exact z L1 H1 s1
        | false =>
          rw [if_neg Bool.false_ne_true]
          have z : (denOr T call (.cons eb xs) σm h1).bool.Post (fun b h' => ∀ L' H', Step G q L h H L' h' H' → Q b H') (Rai G L h H W σ) := z
          exact ⟨L1, lam, σm, h1, p.step s1, Post.imp z (fun k h2 z2 L2 H2 s2 => z2 L2 H2 (s1.trans s2)) fun _ _ z => Rai.at s1 z⟩
      | _ => exact z.elim
/-! .. as values -/
theorem mp_and {rest : List Expr} (ha : PE X a (rd G E W qa (den T call ea))) (hb : PE X (.BoolOp .And (b :: rest) pos) (rd G E W q (denAnd T call (.cons eb xs)))) (ia : q = true → qa = true) :
    PE X (.BoolOp .And (a :: b :: rest) pos) (rd G E W q (denAnd T call (.cons ea (.cons eb xs)))) :=
  (pe_and ha hb).imp fun σ H Q ⟨L, lam, σm, h, p, z⟩ => by
    rw [denAnd_cc] at z
    dsimp only at z
    refine rd_vb p z fun x h1 L1 H1 u e1 s1 r1 z1 => ?_
    cases x with
    | bl k =>
      cases r1
      refine ⟨k, rfl, ?_⟩
      cases k with
      | true =>
        rw [if_pos rfl]
        exact ⟨L1, lam, σm, h1, p.step s1, Post.imp z1 (fun y h2 z2 => Evs.at s1 z2 ia fun e => e) fun _ _ z => z⟩
      | false => rw [if_neg Bool.false_ne_true]; exact Evs.of z1 s1 ia (.bl _)
    | _ => exact z1.elim
theorem mp_or {rest : List Expr} (ha : PE X a (rd G E W qa (den T call ea))) (hb : PE X (.BoolOp .Or (b :: rest) pos) (rd G E W q (denOr T call (.cons eb xs)))) (ia : q = true → qa = true) :
    PE X (.BoolOp .Or (a :: b :: rest) pos) (rd G E W q (denOr T call (.cons ea (.cons eb xs)))) :=
  (pe_or ha hb).imp fun σ H Q ⟨L, lam, σm, h, p, z⟩ => by
    rw [denOr_cc] at z
    dsimp only at z
    refine rd_vb p z fun x h1 L1 H1 u e1 s1 r1 z1 => ?_
    cases x with
    | bl k =>
      cases r1
      refine ⟨k, rfl, ?_⟩
      cases k with
      | false =>
        rw [if_neg Bool.false_ne_true]
        exact ⟨L1, lam, σm, h1, p.step s1, Post.imp z1 (fun y h2 z2 => Evs.at s1 z2 ia fun e => e) fun _ _ z => z⟩
      | true => rw [if_pos rfl]; exact Evs.of z1 s1 ia (.bl _)
    | _ => exact z1.elim
theorem mp_one {op : BoolOp} {den1 : Exs → EE} (h1 : den1 (.cons ea .nil) = den T call ea) (ha : PE X a (rd G E W q (den T call ea))) : PE X (.BoolOp op [a] pos) (rd G E W q (den1 (.cons ea .nil))) := by
  rw [h1]; exact pe_one ha
theorem mp_ife (hc : PT X c (rdT G E W qc fun s h => (den T call ec s h).bool)) (ha : PE X a (rd G E W q (den T call ea))) (hb : PE X b (rd G E W q (den T call eb))) (ic : q = true → qc = true) : PE X (.IfExp c a b pos) (rd G E W q (den T call (.ife ec ea eb))) :=
  (pe_ifExp hc ha hb).imp fun σ H Q ⟨L, lam, σm, h, p, z⟩ => by
    rw [den] at z
    dsimp only at z
    refine rdT_seq p z fun k h1 L1 H1 e1 s1 z1 => ?_
    cases k with
    | true => rw [if_pos rfl]; exact ⟨L1, lam, σm, h1, p.step s1, Post.imp z1 (fun y h2 z2 => Evs.at s1 z2 ic fun e => e) fun _ _ z => z⟩
    | false => rw [if_neg Bool.false_ne_true]; exact ⟨L1, lam, σm, h1, p.step s1, Post.imp z1 (fun y h2 z2 => Evs.at s1 z2 ic fun e => e) fun _ _ z => z⟩
theorem mp_neg (ha : PE X a (rd G E W q (den T call ea))) : PE X (.UnaryOp .USub a pos) (rd G E W q (den T call (.neg ea))) :=
  (pe_un un_neg ha).imp fun σ H Q ⟨L, lam, σm, h, p, z⟩ => by
    rw [den] at z
    dsimp only at z
    refine rd_vb p z fun x h1 L1 H1 u e1 s1 r1 z1 => ?_
    cases x with
    | int i => cases r1; exact ⟨i, rfl, Evs.of z1 s1 (fun e => e) (.int _)⟩
    | _ => exact z1.elim
theorem chain_imp {o o' : B2} (nfa : ea.nofld = true ∨ qb = true) (nfb : eb.nofld = true ∨ qc = true) (ia : q = true → qa = true) (ib : q = true → qb = true) (ic : q = true → qc = true) {σ : L2.St} {H : Hp} {Q : VK} (z : rd G E W q (den T call (.chain o o' ea eb ec)) σ H Q) :
    tChain (rOf G o) (rOf G o') (rd G E W qa (den T call ea)) (rd G E W qb (den T call eb)) (rd G E W qc (den T call ec)) σ H Q := by
    obtain ⟨L, lam, σm, h, p, z⟩ := z
    rw [den] at z
    dsimp only at z
    refine rd_seq (qa := qa) p z fun x h1 L1 H1 u e1 s1 r1 z1 => ?_
    refine rd_seq (qa := qb) (p.step s1) z1 fun y h2 L2 H2 v e2 s2 r2 z2 => ?_
    have r1' : ER G E.px L2 h2.length H2 lam x u := r1.step s2 fun w => by
      rcases nfa with n | n
      · rw [nofld_of n _ _ _ _ e1] at w; cases w
      · exact n
    refine ru_all (q := true) o E.px lam L2 h2 H2 _ _ x y u v s2.hr r1' r2 (Post.imp (Post.bind z2) (fun k h3 z3 L3 H3 t s3 r3 => ?_) fun _ _ z => z)
    cases k with
    | bl k =>
      cases r3
      refine ⟨k, rfl, ?_⟩
      cases k with
      | false => rw [if_neg Bool.false_ne_true]; exact z3 L3 H3 _ (((s1.tr s2 ia ib).tr s3 (fun e => e) fun _ => rfl)) (.bl _)
      | true =>
        rw [if_pos rfl]
        have s12 : Step G q L h H L3 h3 H3 := (s1.tr s2 ia ib).tr s3 (fun e => e) fun _ => rfl
        have z3' : ((den T call ec σm h3).bind fun u h4 => (ev2 o' y u h4).bind fun z h5 => .ok (.v z) h5).Post (Evs G E.px lam q L h H Q) (Rai G L3 h3 H3 W σ) :=
          Post.imp z3 (fun _ _ z => z) fun _ _ z => Rai.at s3 z
        refine rd_seq (qa := qc) ((p.step s1).step s2 |>.step s3) z3' fun w h4 L4 H4 t e4 s4 r4 z4 => ?_
        have r2' : ER G E.px L4 h4.length H4 lam y v := by
          rcases nfb with n | n
          · have nf := nofld_of n _ _ _ _ e2
            exact (r2.step s3 fun _ => rfl).step s4 fun w => by rw [nf] at w; cases w
          · exact (r2.step s3 fun _ => rfl).step s4 fun _ => n
        exact ru_all o' E.px lam L4 h4 H4 _ _ y w v t s4.hr r2' r4 (Post.imp (Post.bind z4) (fun k2 h5 z5 L5 H5 t5 s5 r5 => z5 L5 H5 _ ((s12.tr s4 (fun e => e) ic).trans s5) r5) fun _ _ z => z)
    | _ => exact z3.elim
theorem mp_chain (O : Ops G X) {o o' : B2} {op op' : CmpOp} (e : o.cmp = some op) (e' : o'.cmp = some op') (ha : PE X a (rd G E W qa (den T call ea))) (hb : PE X b (rd G E W qb (den T call eb))) (hc : PE X c (rd G E W qc (den T call ec))) (okc : okE c = true)
    (nfa : ea.nofld = true ∨ qb = true) (nfb : eb.nofld = true ∨ qc = true) (ia : q = true → qa = true) (ib : q = true → qb = true) (ic : q = true → qc = true) :
    PE X (.Compare a [op, op'] [b, c] pos) (rd G E W q (den T call (.chain o o' ea eb ec))) :=
  (pe_chain (opr_cmp O e) (opr_cmp O e') ha hb hc (mark_of okc op')).imp fun σ H Q z => chain_imp nfa nfb ia ib ic z
theorem chain_bl {o o' : B2} {op' : CmpOp} (e' : o'.cmp = some op') {s : ML} {h h' : MH} {x : EV} (er : den T call (.chain o o' ea eb ec) s h = .ok x h') : ∃ k, x = .v (.bl k) := by
  rw [den] at er
  dsimp only at er
  cases e1 : den T call ea s h with
  | bad => rw [e1] at er; cases er
  | exc _ _ => rw [e1] at er; cases er
  | ok x1 h2 =>
    rw [e1, bind_ok] at er
    cases e2 : den T call eb s h2 with
    | bad => rw [e2] at er; cases er
    | exc _ _ => rw [e2] at er; cases er
    | ok x2 h3 =>
      rw [e2, bind_ok] at er
      cases e3 : ev2 o x1 x2 h3 with
      | bad => rw [e3] at er; cases er
      | exc _ _ => rw [e3] at er; cases er
      | ok v h4 =>
        rw [e3, bind_ok] at er
        cases v with
        | bl k =>
          cases k with
          | false => cases er; exact ⟨_, rfl⟩
          | true =>
            dsimp only at er
            cases e4 : den T call ec s h4 with
            | bad => rw [e4] at er; cases er
            | exc _ _ => rw [e4] at er; cases er
            | ok x3 h5 =>
              rw [e4, bind_ok] at er
              cases e5 : ev2 o' x2 x3 h5 with
              | bad => rw [e5] at er; cases er
              | exc _ _ => rw [e5] at er; cases er
              | ok w h6 =>
                rw [e5, bind_ok] at er
                cases er
                obtain ⟨k, rfl⟩ := cmp_bl e' e5
                exact ⟨k, rfl⟩
        | _ => cases er
theorem mpt_chain (O : Ops G X) {o o' : B2} {op op' : CmpOp} (e : o.cmp = some op) (e' : o'.cmp = some op') (ha : PE X a (rd G E W qa (den T call ea))) (hb : PE X b (rd G E W qb (den T call eb))) (hc : PE X c (rd G E W qc (den T call ec))) (okc : okE c = true)
    (nfa : ea.nofld = true ∨ qb = true) (nfb : eb.nofld = true ∨ qc = true) (ia : q = true → qa = true) (ib : q = true → qb = true) (ic : q = true → qc = true) :
    PT X (.Compare a [op, op'] [b, c] pos) (rdT G E W q fun s h => (den T call (.chain o o' ea eb ec) s h).bool) :=
  (pt_chain (opr_cmp O e) (opr_cmp O e') ha hb hc (mark_of okc op')).imp fun σ H Q ⟨L, lam, σm, h, p, z⟩ => by
    refine chain_imp (q := q) nfa nfb ia ib ic ⟨L, lam, σm, h, p, ?_⟩
    have z2 := Post.bind z
    cases er : den T call (.chain o o' ea eb ec) σm h with
    | bad => rw [er] at z2; exact z2
    | exc c k => rw [er] at z2; exact z2
    | ok x h1 =>
      rw [er] at z2
      obtain ⟨k, rfl⟩ := chain_bl e' er
      intro L1 H1 u s1 r1
      cases r1
      exact ⟨k, rfl, z2 L1 H1 s1⟩
/-! lists of values -/
theorem mpa_nil : PA X [] (rdA G E W q (dens T call .nil)) := by
  refine ⟨fun pos pins s σ H Q I z => pa_nil.run pos pins s σ H Q I ?_⟩
  obtain ⟨L, lam, σm, h, p, z⟩ := z
  rw [dens] at z
  exact z L H [] (.refl p.hr) .nil
theorem mpa_cons (ha : PE X a (rd G E W qa (den T call ea))) (oka : okE a = true) (hr : PA X es (rdA G E W qb (dens T call xs))) (ia : q = true → qa = true) (ib : q = true → qb = true) : PA X (a :: es) (rdA G E W q (dens T call (.cons ea xs))) := by
  refine ⟨fun pos pins s σ H Q I z => (pa_cons ha hr (star_of oka es X.env)).run pos pins s σ H Q I ?_⟩
  obtain ⟨L, lam, σm, h, p, z⟩ := z
  rw [dens] at z
  dsimp only at z
  refine rd_vb p z fun x h1 L1 H1 u e1 s1 r1 z1 => ?_
  refine rdA_seq (p.step s1) z1 fun ys h2 L2 H2 us e2 s2 r2 z2 => ?_
  exact z2 L2 H2 (u :: us) (s1.tr s2 ia ib) (.cons (s2.vr r1) r2)
theorem mpx_nil : PA X [] (rdX G E W q (denE T call .nil)) := by
  refine ⟨fun pos pins s σ H Q I z => pa_nil.run pos pins s σ H Q I ?_⟩
  obtain ⟨L, lam, σm, h, p, z⟩ := z
  rw [denE] at z
  exact z L H [] (.refl p.hr) .nil
theorem mpx_cons (ha : PE X a (rd G E W qa (den T call ea))) (oka : okE a = true) (hr : PA X es (rdX G E W qb (denE T call xs))) (nf : ea.nofld = true ∨ qb = true) (ia : q = true → qa = true) (ib : q = true → qb = true) : PA X (a :: es) (rdX G E W q (denE T call (.cons ea xs))) := by
  refine ⟨fun pos pins s σ H Q I z => (pa_cons ha hr (star_of oka es X.env)).run pos pins s σ H Q I ?_⟩
  obtain ⟨L, lam, σm, h, p, z⟩ := z
  rw [denE] at z
  dsimp only at z
  refine rd_seq p z fun x h1 L1 H1 u e1 s1 r1 z1 => ?_
  refine rdX_seq (p.step s1) z1 fun ys h2 L2 H2 us e2 s2 r2 z2 => ?_
  refine z2 L2 H2 (u :: us) (s1.tr s2 ia ib) (.cons (r1.step s2 fun w => ?_) r2)
  rcases nf with n | n
  · rw [nofld_of n _ _ _ _ e1] at w; cases w
  · exact n
theorem mp_tup {n : Nat} (h : PA X es (rdA G E W q (dens T call xs))) : PE X (.Tuple es n pos) (rd G E W q (den T call (.tup xs))) :=
  (pe_tup h).imp fun σ H Q ⟨L, lam, σm, h, p, z⟩ => by
    rw [den] at z
    dsimp only at z
    refine rdA_seq p z fun ys h1 L1 H1 us e1 s1 r1 z1 => ?_
    obtain ⟨c, z1⟩ := post_if z1
    exact ⟨by rw [← r1.length]; exact c, fun r hr => Evs.of z1 (s1.trans (step_fz q s1.hr hr)) (fun e => e) (VR.tup (.inl addF_at) ((step_fz (G := G) q s1.hr hr).vrs r1))⟩
theorem mp_fld (O : Ops G X) (B : TbOk G T) {f : String} {x : Str} (ex : x = f) (ha : PE X a (rd G E W q (den T call ea))) (oka : okE a = true) : PE X (.Attribute a x pos) (rd G E W q (den T call (.fld ea f))) := by
  subst ex
  refine (pe_fld ha (base_of oka _ _ _)).imp fun σ H Q ⟨L, lam, σm, h, p, z⟩ => ?_
  rw [den] at z
  dsimp only at z
  refine rd_vb p z fun x h1 L1 H1 u e1 s1 r1 z1 => ?_
  unfold fldOf at z1
  cases x with
  | ref n =>
    cases r1 with
    | ref hn al =>
      rename_i aa
      dsimp only at z1
      cases hc : h1[n]? with
      | none => rw [hc] at z1; exact z1.elim
      | some cl =>
        cases cl with
        | ct c => rw [hc] at z1; exact z1.elim
        | lk c => rw [hc] at z1; exact z1.elim
        | ins c fs =>
          rw [hc] at z1
          dsimp only at z1
          obtain ⟨tf, z1⟩ := post_if z1
          obtain ⟨a', o, e2, e3, e4⟩ := s1.hr.cell n _ hc
          rw [al] at e2; cases e2
          cases e4 with
          | ins rf =>
            obtain ⟨cl, na⟩ := B.fld _ _ tf
            rw [O.K]
            cases hg : getF fs f with
            | none => rw [hg] at z1; exact z1.elim
            | some d =>
              obtain ⟨v, l, rv⟩ := rf.get hg
              rw [hg] at z1
              refine ⟨aa, _, _, _, v, rfl, e3, cl, na, l, ?_⟩
              cases d with
              | val w => exact Evs.of z1 s1 (fun e => e) rv
              | own w =>
                obtain ⟨ad, o, rfl, h3, h4, h5⟩ := rv
                exact Evs.of z1 s1 (fun e => e) ⟨ad, o, rfl, hn, h3, h4, h5⟩
  | ins c fs vs =>
    cases r1 with
    | ins hf hl rv =>
      dsimp only at z1
      obtain ⟨tf, z1⟩ := post_if z1
      obtain ⟨cl, na⟩ := B.fld _ _ tf
      rw [O.K]
      cases hg : (fs.zip vs).lookup f with
      | none => rw [hg] at z1; exact z1.elim
      | some w =>
        obtain ⟨v, l, rw'⟩ := zip_get hl rv hg
        rw [hg] at z1
        exact ⟨_, _, _, _, v, rfl, s1.hr.fz _ _ hf, cl, na, l, Evs.of z1 s1 (fun e => e) rw'⟩
  | _ => exact z1.elim
end
end MP
set_option Elab.async false
set_option linter.all false
set_option autoImplicit false
set_option maxRecDepth 100000
set_option maxHeartbeats 4000000
/-! MP, part j: expressions: items, slices, joins, built-ins. -/
namespace MP
open PySem PySem.Spec L2
/-! ### items -/
def rIxD2 : R2 := fun x y H Q => ∃ a v, x = .ref a ∧ DGet H a y (some v) ∧ Q v H
def rIxKD (G : Gb) : R2 := fun x y H Q => ∃ a ks ys, ∃ z : Str, ∃ v, x = .ref a ∧ G.kd a ks ys ∧ y = .str z ∧ valV (ks.zip ys) (Sum.inr z : Key) = some v ∧ Q v H
def rIxAll (G : Gb) : R2 := fun x y H Q => rIx G.K x y H Q ∨ (rIxD2 x y H Q ∨ rIxKD G x y H Q)
section
variable {G : Gb} {X : Cx}
theorem ix_dict (O : Ops G X) : IxR X rIxD2 := by
  intro value slice pins s σ H x y v u Q I rx ry h hs
  obtain ⟨a, z, rfl, g, q⟩ := h
  obtain rfl : v = Value.ref a := rx
  exact PyProof.Rows.tail_any (dict_typeIs I g) PySem.F.slot_dict_getitem.lookup (d_getItem (Nat.lt_of_le_of_lt (Nat.add_le_add_left (by decide) _) O.hu) I g ry fun w' s3 I3 rw' => ⟨z, H, I3, rw', q⟩) hs
theorem ix_kd (O : Ops G X) : IxR X (rIxKD G) := by
  intro value slice pins s σ H x y v u Q I rx ry h hs
  obtain ⟨a, ks, ys, z, w, ex, hk, ey, hv, q⟩ := h
  obtain ⟨es, n, D, _, hz⟩ := O.kd a ks ys hk
  rw [← O.K] at D hz
  obtain ⟨u0, e0, ru⟩ := (hz z).2 w hv
  subst ex
  have tI := kd_type D I
  obtain rfl : v = Value.ref a := rx
  exact PyProof.Rows.tail_any tI PySem.F.slot_dict_getitem.lookup (op_item_kd D pins s σ H (V.ref a) y _ u Q I rfl ry ⟨z, u0, w, rfl, ey, e0, ru, q⟩) hs
theorem ix_all (O : Ops G X) : IxR X (rIxAll G) := by
  have h1 := ix_seq (X := X)
  rw [O.K] at h1
  exact h1.or ((ix_dict O).or (ix_kd O))
end
theorem atI_of {G : Gb} {L : Lay} {b : Nat} {xs : List MV} {us : List V} {i : Int} {v : MV} (r : VRs G L b xs us) (e : atI xs i = some v) : ∃ u, atI us i = some u ∧ VR G L b v u := by
  unfold atI at e ⊢
  rw [← r.length]
  obtain ⟨j, e1, e2⟩ := Option.bind_eq_some_iff.mp e
  obtain ⟨u, e3, e4⟩ := r.get e2
  exact ⟨u, by rw [e1]; exact e3, e4⟩
section
variable {G : Gb} {q : Bool}
theorem ru_ix : Ru2 G q evIx (rIxAll G) := by
  intro px lam L h H Q Z x y u v r kx ky z
  have gen : ∀ {t : MV}, y = .v t → (ixC x t h).Post (Val G q L h H Q) Z → rIxAll G u v H Q := fun {t} ey zz => by
    clear z
    subst ey
    have z := zz
    clear zz
    unfold ixC at z
    cases hs : seqOf x h with
    | some xs =>
      rw [hs] at z
      cases t with
      | int i =>
        cases ky
        dsimp only at z
        cases ha : atI xs i with
        | none => rw [ha] at z; exact z.elim
        | some w =>
          rw [ha] at z
          obtain ⟨a, ys, rfl, hq, rv⟩ := seq_of r kx hs
          obtain ⟨t, e1, e2⟩ := atI_of rv ha
          rcases hq with hq | hq
          · exact .inl (.inl ⟨a, ys, i, t, rfl, rfl, hq, e1, val_here z r e2⟩)
          · exact .inl (.inr (.inl ⟨a, ys, i, t, rfl, rfl, hq, e1, val_here z r e2⟩))
      | _ => exact z.elim
    | none =>
      rw [hs] at z
      dsimp only at z
      cases hd : dctOf x h with
      | none => rw [hd] at z; exact z.elim
      | some p =>
        obtain ⟨ks, vs⟩ := p
        rw [hd] at z
        dsimp only at z
        cases hk : keyD x t with
        | none => rw [hk] at z; exact z.elim
        | some k =>
          rw [hk] at z
          have z : (match findK ks vs k with
            | some v => Res.ok v h
            | none => .bad).Post (Val G q L h H Q) Z := z
          cases hf : findK ks vs k with
          | none => rw [hf] at z; exact z.elim
          | some w =>
            rw [hf] at z
            obtain ⟨a, ys, rfl, hl, rv, hh⟩ := dct_of r kx hd
            have kv := key_of ky (keyD_of hk)
            rcases find_zip (k := k) hl rv with ⟨f1, _⟩ | ⟨w', y', f1, f2, f3⟩
            · rw [hf] at f1; cases f1
            · rw [hf] at f1; cases f1
              have zv : Q y' H := val_here (v := w) (x := y') z r f3
              rcases hh with hh | ⟨hh, hy⟩
              · refine .inr (.inl ⟨a, y', rfl, ?_, zv⟩)
                rw [kv, ← f2]; exact DGet.r hh
              · obtain ⟨s, es, et⟩ := key_text hk hy
                subst es
                exact .inr (.inr ⟨a, ks, ys, s, y', rfl, hh, kv, f2, zv⟩)
  cases y with
  | w c p => cases x with
    | v x => cases x <;> exact z.elim
    | _ => exact z.elim
  | x c => cases x with
    | v x => cases x <;> exact z.elim
    | _ => exact z.elim
  | v t =>
    cases x with
    | w c p => exact gen rfl z
    | x c => exact gen rfl z
    | v x =>
      cases x with
      | str s =>
        cases t with
        | int i =>
          cases kx; cases ky
          have z : (match atI s.cps.toList i with
            | some c => if s.length ≤ sizeLine then Res.ok (MV.str ⟨#[c]⟩) h else .bad
            | none => .bad).Post (Val G q L h H Q) Z := z
          cases ha : atI s.cps.toList i with
          | none => rw [ha] at z; exact z.elim
          | some c =>
            rw [ha] at z
            obtain ⟨c', z⟩ := post_if z
            exact .inl (.inr (.inr ⟨s, i, c, rfl, rfl, c', ha, here_str z r⟩))
        | _ => exact gen rfl z
      | _ => exact gen rfl z
end
section
variable {T : Tb} {call : Nat → List MV → MH → Res MV} {G : Gb} {E : Ent} {W : WX} {X : Cx} {q qa qb qc : Bool} {pos p2 : Pos} {a b c : Expr} {ea eb ec : Ex} {es : List Expr} {xs : Exs}
theorem mp_ix (O : Ops G X) (ha : PE X a (rd G E W qa (den T call ea))) (hb : PE X b (rd G E W qb (den T call eb))) (okb : okE b = true) (nf : ea.nofld = true ∨ qb = true) (ia : q = true → qa = true) (ib : q = true → qb = true) :
    PE X (.Subscript a b pos) (rd G E W q (den T call (.ix ea eb))) := (pe_ix (ix_all O) ha hb (ix_of okb)).imp fun σ H Q z => by
  have z' : rd G E W q (fun s h => (den T call ea s h).bind fun x h1 => (den T call eb s h1).bind fun y h2 => (evIx x y h2).bind fun v h3 => .ok (.v v) h3) σ H Q := by
    obtain ⟨L, lam, σm, h, p, z⟩ := z
    rw [den] at z
    exact ⟨L, lam, σm, h, p, z⟩
  exact rd2 ru_ix (nf.elim (fun n => .inr (nofld_of n)) .inl) ia ib z'
/-! ### slices -/
theorem mpo_no : PO X none (rdO G E W q (denO T call .no)) := by
  refine ⟨fun pins s σ H Q I z => po_none.run pins s σ H Q I ?_⟩
  obtain ⟨L, lam, σm, h, p, z⟩ := z
  rw [denO] at z
  exact z L H (.refl p.hr)
theorem mpo_yes (ha : PE X a (rd G E W q (den T call ea))) : PO X (some a) (rdO G E W q (denO T call (.yes ea))) := by
  refine ⟨fun pins s σ H Q I z => (po_some ha).run pins s σ H Q I ?_⟩
  obtain ⟨L, lam, σm, h, p, z⟩ := z
  rw [denO] at z
  dsimp only at z
  refine rd_vb p z fun x h1 L1 H1 u e1 s1 r1 z1 => ?_
  cases x with
  | int i => cases r1; exact ⟨i, rfl, z1 L1 H1 s1⟩
  | _ => exact z1.elim
def rSlV (G : Gb) : V → Option Int → Option Int → Hp → VK → Prop := fun x lo hi H Q => rSlS x lo hi H Q ∨ rSlA G.K x lo hi H Q
theorem sl_v (O : Ops G X) : L2.SlR X (rSlV G) := by
  have h := sl_tupA (X := X)
  rw [O.K] at h
  exact sl_str.or h
theorem cut_of {L : Lay} {b : Nat} {vs : List MV} {us : List V} (r : VRs G L b vs us) (lo hi : Option Int) : VRs G L b (cutM vs lo hi) (cutV us lo hi) := by
  unfold cutM cutV
  rw [← r.length]
  exact VRs.take _ (VRs.drop _ r)
theorem cut_whole {vs : List MV} {lo hi : Option Int} (h : HT.sIx vs.length 0 lo = 0 ∧ HT.sIx vs.length vs.length hi = vs.length) : cutM vs lo hi = vs := by
  unfold cutM
  rw [h.1, h.2]
  simp
theorem ru_sl {L : Lay} {h : MH} {H : Hp} {lam : Nat → Option Addr} {px : Addr → Nat → Prop} {Q : VK} {Z : Nat → MH → Prop} {x : EV} {u : V} {lo hi : Option Int} (r : HR G L h H) (kx : ER G px L h.length H lam x u) (z : (evSl x lo hi h).Post (Val G q L h H Q) Z) : rSlV G u lo hi H Q := by
  cases x with
  | w c p => exact z.elim
  | x c => exact z.elim
  | v x =>
    cases x with
    | str s =>
      cases kx
      obtain ⟨c, z⟩ := post_if (show (if s.length ≤ sizeLine then Res.ok (MV.str (cutS s lo hi)) h else .bad).Post (Val G q L h H Q) Z from z)
      exact .inl ⟨s, rfl, c, here_str z r⟩
    | tup vs =>
      cases kx with
      | tup t rv =>
        have z : Val G q L h H Q (.tup (cutM vs lo hi)) h := z
        refine .inr ⟨_, _, rfl, t.sq r, fun w => ?_, fun _ p hp => new_tup z r (cut_of rv lo hi) hp⟩
        rw [← rv.length] at w
        rw [cut_whole w] at z
        exact val_here z r (.tup t rv)
    | _ => exact z.elim
theorem mp_sl (O : Ops G X) {lo hi : Option Expr} {el eh : Exo} (ha : PE X a (rd G E W qa (den T call ea))) (hl : PO X lo (rdO G E W qb (denO T call el))) (hh : PO X hi (rdO G E W qc (denO T call eh))) (nf : ea.nofld = true ∨ (qb = true ∧ qc = true))
    (ia : q = true → qa = true) (ib : q = true → qb = true) (ic : q = true → qc = true) : PE X (.Subscript a (.Slice lo hi none p2) pos) (rd G E W q (den T call (.sl ea el eh))) :=
  (pe_slice (sl_v O) ha hl hh).imp fun σ H Q ⟨L, lam, σm, h, p, z⟩ => by
    rw [den] at z
    dsimp only at z
    refine rd_seq (qa := qa) p z fun x h1 L1 H1 u e1 s1 r1 z1 => ?_
    refine rdO_seq (qa := qb) (p.step s1) z1 fun i h2 L2 H2 e2 s2 z2 => ?_
    refine rdO_seq (qa := qc) ((p.step s1).step s2) z2 fun j h3 L3 H3 e3 s3 z3 => ?_
    have r3 : ER G E.px L3 h3.length H3 lam x u := by
      refine (r1.step s2 fun w => ?_).step s3 fun w => ?_
      · rcases nf with n | n
        · rw [nofld_of n _ _ _ _ e1] at w; cases w
        · exact n.1
      · rcases nf with n | n
        · rw [nofld_of n _ _ _ _ e1] at w; cases w
        · exact n.2
    refine ru_sl (q := true) s3.hr r3 (Post.imp (Post.bind z3) (fun w h4 z4 L4 H4 t s4 r4 => ?_) fun _ _ z => z)
    exact z4 L4 H4 t (((s1.tr s2 ia ib).tr s3 (fun e => e) ic).tr s4 (fun e => e) fun _ => rfl) r4
/-! ### joins -/
theorem strs_of {L : Lay} {b : Nat} : ∀ {vs : List MV} {us : List V} {ys : List Str}, VRs G L b vs us → strsOf vs = some ys → us = ys.map V.str
  | _, _, ys, .nil, e => by cases e; rfl
  | _, _, ys, .cons (v := v) k t, e => by
    cases v with
    | str s =>
      cases k
      unfold strsOf at e
      obtain ⟨zs, e1, e2⟩ := Option.map_eq_some_iff.mp e
      subst e2
      rw [List.map_cons, strs_of t e1]
    | _ => simp [strsOf] at e
theorem mp_join (O : Ops G X) {x : Str} {apos : Pos} (ex : x = "join") (ha : PE X a (rd G E W qa (den T call ea))) (hb : PE X b (rd G E W qb (den T call eb))) (oka : okE a = true) (okb : okE b = true) (hl : (apos.endLine == pos.line) = true) (ia : q = true → qa = true) (ib : q = true → qb = true) :
    PE X (.Call (.Attribute a x apos) [b] [] pos) (rd G E W q (den T call (.join ea eb))) := by
  subst ex
  refine (pe_join ha hb (by rw [star_of okb]; rfl) (base_of oka _ _ _) hl).imp fun σ H Q ⟨L, lam, σm, h, p, z⟩ => ?_
  rw [den] at z
  dsimp only at z
  refine rd_vb (qa := qa) p z fun x h1 L1 H1 u e1 s1 r1 z1 => ?_
  cases x with
  | str t =>
    cases r1
    refine ⟨⟨t, rfl⟩, rd_seq (qa := qb) (p.step s1) z1 fun y h2 L2 H2 v e2 s2 r2 z2 => ?_⟩
    unfold evJoin at z2
    cases hs : seqOf y h2 with
    | none => rw [hs] at z2; exact z2.elim
    | some vs =>
      rw [hs] at z2
      cases ht : strsOf vs with
      | none =>
        have z2 := z2
        simp only [Option.bind_some, ht] at z2
        exact z2.elim
      | some ys =>
        simp only [Option.bind_some, ht] at z2
        obtain ⟨c, z3⟩ := post_if (Post.bind z2)
        obtain ⟨ad, us, rfl, hq, rv⟩ := seq_of s2.hr r2 hs
        have eu := strs_of rv ht
        subst eu
        rw [O.K]
        exact ⟨t, ad, ys, rfl, rfl, hq, c, z3 L2 H2 _ (s1.tr s2 ia ib) (.str _)⟩
  | _ => exact z1.elim
end
end MP
set_option Elab.async false
set_option linter.all false
set_option autoImplicit false
set_option maxRecDepth 100000
set_option maxHeartbeats 4000000
/-! MP, part k: expressions: calls of built-ins by name. -/
namespace MP
open PySem PySem.Spec L2
/-! ### isinstance -/
theorem tyIs_key : ∀ t ∈ ["int", "str", "tuple", "bool", "list", "dict"], ∀ n ∈ ["NoneType", "bool", "int", "str", "tuple", "list", "dict"], kitB n t = tyIs n t := by decide +kernel
theorem tyIs_ok {k : Kd} {n t : String} {b : Bool} (e : kindTy k = some n) (z : tyIs n t = some b) : kitB n t = some b := by
  have hn : n ∈ ["NoneType", "bool", "int", "str", "tuple", "list", "dict"] := by
    cases k <;> simp [kindTy] at e <;> subst e <;> simp
  have ht : t ∈ ["int", "str", "tuple", "bool", "list", "dict"] := by
    unfold tyIs at z
    split at z <;> simp_all
  rw [tyIs_key t ht n hn, z]
/-- what is asked of the classes, for isinstance -/
structure InsOk (K : PySem.W.Frag) (C : Addr) : Prop where
  cl : Cls K C
  ha : PySem.W.findIn K (.ref C) "__class__" = some (some (.builtin "object.__class__"))
  hn : PySem.W.specialIn K (.builtin "object.__class__") "__get__" = some (some (.builtin "getset_descriptor.__get__"))
  htk : PySem.W.takesIn K (.builtin "object.__class__") = some true
  hm : PySem.W.mroIn K C (.type "object") = some true
structure TbIs (G : Gb) (T : Tb) : Prop where
  sub : ∀ c d b, T.sub c d = some b → InsOk G.K (G.ca c) → PySem.W.kitOne G.K (.ref (G.ca c)) (.ref (G.ca d)) = some b
  isa : ∀ c t b, T.isa c t = some b → InsOk G.K (G.ca c) ∧ PySem.W.kitOne G.K (.ref (G.ca c)) (.type t) = some b
  own : ∀ d n, T.own d = true → (∃ k, kindTy k = some n) → PySem.W.kitOne G.K (.type n) (.ref (G.ca d)) = some false
  ins : ∀ c d b, T.sub c d = some b → (∃ t b', T.isa c t = some b')
section
variable {G : Gb} {T : Tb} {X : Cx} {px : Addr → Nat → Prop} {lam : Nat → Option Addr} {L : Lay} {h : MH} {H : Hp}
theorem kind_of (O : Ops G X) (r : HR G L h H) {e : EV} {u : V} {k : Kd} (ke : ER G px L h.length H lam e u) (z : kindOf e h = some k) :
    (∃ n, kindTy k = some n ∧ TyX G.K H u (.type n)) ∨ ∃ c, k = .ins c ∧ (InsOk G.K (G.ca c) → TyX G.K H u (.ref (G.ca c))) := by
  have viaCt : ∀ {c : Ct}, ctOf e h = some c → (match c with | .lst _ => Kd.lst | _ => .dct) = k → ∃ n, kindTy k = some n ∧ TyX G.K H u (.type n) := fun {c} zc ek => by
    obtain ⟨a, o, e1, e2, e3⟩ := ct_of r ke zc
    subst e1
    cases e3 with
    | lst rv => cases ek; exact ⟨_, rfl, .base (.lst e2)⟩
    | dK l rv => cases ek; exact ⟨_, rfl, .base (.dK e2)⟩
    | dT l rv => cases ek; exact ⟨_, rfl, .base (.dT e2)⟩
  cases e with
  | x c => cases z
  | w c p =>
    cases c with
    | lst xs => exact .inl (viaCt (c := .lst xs) rfl (Option.some.inj z))
    | dK ks xs => exact .inl (viaCt (c := .dK ks xs) rfl (Option.some.inj z))
    | dT ks xs => exact .inl (viaCt (c := .dT ks xs) rfl (Option.some.inj z))
  | v x =>
    cases x with
    | non => cases ke; cases z; exact .inl ⟨_, rfl, .base .non⟩
    | bl b => cases ke; cases z; exact .inl ⟨_, rfl, .base (.bl b)⟩
    | int b => cases ke; cases z; exact .inl ⟨_, rfl, .base (.int b)⟩
    | str b => cases ke; cases z; exact .inl ⟨_, rfl, .base (.str b)⟩
    | tup xs =>
      cases z
      cases ke with
      | tup t rv =>
        refine .inl ⟨_, rfl, ?_⟩
        rcases t with t | ⟨o, its, n, e1, e2, _⟩
        · exact .base (.tup (r.fz _ _ t))
        · exact .kTuple e1 e2
    | lst xs =>
      cases z
      cases ke with
      | lst t rv => exact .inl ⟨_, rfl, .base (.lst (r.fz _ _ t))⟩
    | dct ks xs =>
      cases z
      cases ke with
      | dct t hl rv =>
        refine .inl ⟨_, rfl, ?_⟩
        rcases t with t | t
        · exact .base (.dK (r.fz _ _ t))
        · obtain ⟨es, n, D, _⟩ := O.kd _ _ _ t
          exact .kDict D.at_ rfl
    | ins c fs vs =>
      cases z
      cases ke with
      | ins hf hl rv => exact .inr ⟨c, rfl, fun i => .base (.ins (r.fz _ _ hf) i.cl i.ha i.hn i.htk i.hm)⟩
    | ref n =>
      unfold kindOf at z
      dsimp only at z
      cases hc : h[n]? with
      | none => rw [hc] at z; cases z
      | some cl =>
        rw [hc] at z
        cases cl with
        | ct c => exact .inl (viaCt (c := c) (by simp [ctOf, hc]) (by cases c <;> exact Option.some.inj z))
        | lk c => cases z
        | ins c fs =>
          cases z
          cases ke with
          | ref hn al =>
            obtain ⟨a', o, e2, e3, e4⟩ := r.cell n _ hc
            rw [al] at e2; cases e2
            cases e4 with
            | ins rf => exact .inr ⟨c, rfl, fun i => .base (.ins e3 i.cl i.ha i.hn i.htk i.hm)⟩
    | fn f => cases z
    | cls f => cases z
    | ty f => cases z
    | kl f => cases z
end

/-- a built-in's rule, for its meaning -/
def BiR (G : Gb) (T : Tb) (b : Bi) (r : List V → Hp → VK → Prop) : Prop := ∀ px lam q L h H Q (Z : Nat → MH → Prop) xs us, HR G L h H → ERs G px L h.length H lam xs us → (evBi T b xs h).Post (Val G q L h H Q) Z → r us H Q
def Bi.fn : Bi → Value
  | .isinst => .builtin "isinstance" | .len => .builtin "len" | .ord => .builtin "ord" | .int => .type "int" | .str => .type "str" | .tuple => .type "tuple" | .max => .builtin "max" | .min => .builtin "min" | .sum => .builtin "sum"
def Bi.name : Bi → String
  | .isinst => "isinstance" | .len => "len" | .ord => "ord" | .int => "int" | .str => "str" | .tuple => "tuple" | .max => "max" | .min => "min" | .sum => "sum"
theorem Bi.boot (b : Bi) : bootBuiltins b.name = some b.fn := by
  cases b <;> decide +kernel
section
variable {G : Gb} {T : Tb} {X : Cx}
theorem ints_of {L : Lay} {b : Nat} : ∀ {vs : List MV} {us : List V} {ys : List Int}, VRs G L b vs us → intsOf vs = some ys → us = ys.map V.int
  | _, _, ys, .nil, e => by cases e; rfl
  | _, _, ys, .cons (v := v) k t, e => by
    cases v with
    | int s =>
      cases k
      unfold intsOf at e
      obtain ⟨zs, e1, e2⟩ := Option.map_eq_some_iff.mp e
      subst e2
      rw [List.map_cons, ints_of t e1]
    | _ => simp [intsOf] at e
def biOk (G : Gb) (X : Cx) (b : Bi) : List V → Hp → VK → Prop := match b with
  | .isinst => rIsi G.K
  | .len => fun xs H Q => (∃ p ys, xs = [.ref p] ∧ (SqL G.K H p ys ∨ SqT G.K H p ys) ∧ Q (.int ys.length) H) ∨ ((∃ z, xs = [.str z] ∧ z.length ≤ sizeLine ∧ Q (.int z.length) H) ∨ ∃ a kvs, xs = [V.ref a] ∧ H a = some (.dK kvs) ∧ Q (.int kvs.length) H)
  | .ord => fun xs H Q => ∃ x, xs = [.str x] ∧ x.length = 1 ∧ Q (.int (x.cps.getD 0 0 : Nat)) H
  | .int => fun xs H Q => ((∃ i, xs = [.int i] ∧ Q (.int i) H) ∨ ∃ k, xs = [.bl k] ∧ Q (.int (if k then 1 else 0)) H) ∨ ∃ a n, xs = [.str a] ∧ PySem.intText? a = some n ∧ a.length ≤ 640 ∧ Q (.int n) H
  | .str => fun xs H Q => (∃ i, xs = [.int i] ∧ i.natAbs.log2 < 1920 ∧ Q (.str (toString i)) H) ∨ ∃ a, xs = [.str a] ∧ Q (.str a) H
  | .tuple => fun xs H Q => ∃ p ys, xs = [.ref p] ∧ ((SqL G.K H p ys ∧ ∀ l, H l = none → Q (.ref l) (upd H l (.tup ys))) ∨ (SqT G.K H p ys ∧ Q (.ref p) H))
  | .max => fun xs H Q => ∃ i j, xs = [.int i, .int j] ∧ Q (.int (if j > i then j else i)) H
  | .min => fun xs H Q => ∃ i j, xs = [.int i, .int j] ∧ Q (.int (if j < i then j else i)) H
  | .sum => rSum G.K
/-- built-ins that ask that no exception is handled -/
def Bi.hot : Bi → Bool
  | .max => true | .min => true | .sum => true | _ => false
theorem bi_call (O : Ops G X) (b : Bi) (cm : b.hot = true → X.calm = true) : CallR X b.fn (biOk G X b) := by
  cases b
  · have h := call_isi (X := X); rw [O.K] at h; exact h
  · have h := call_len_seq (X := X); rw [O.K] at h; exact h.or (call_len_str.or call_lenD)
  · exact call_ord
  · exact call_int1.or call_int_str
  · exact call_str_int.or SkE.call_str_str
  · have h := call_tuple_of (X := X); rw [O.K] at h; exact h
  · exact call_max2 (cm rfl)
  · exact call_min2 (cm rfl)
  · have h := cr_sum (X := X) (cm rfl); rw [O.K] at h; exact h
theorem Vrs1 {G : Gb} {px : Addr → Nat → Prop} {L : Lay} {b : Nat} {H : Hp} {lam : Nat → Option Addr} {e : EV} {us : List V} (k : ERs G px L b H lam [e] us) : ∃ u, us = [u] ∧ ER G px L b H lam e u := by
  cases k with
  | cons r t => cases t; exact ⟨_, rfl, r⟩
theorem Vrs2 {G : Gb} {px : Addr → Nat → Prop} {L : Lay} {b : Nat} {H : Hp} {lam : Nat → Option Addr} {e f : EV} {us : List V} (k : ERs G px L b H lam [e, f] us) : ∃ u v, us = [u, v] ∧ ER G px L b H lam e u ∧ ER G px L b H lam f v := by
  cases k with
  | cons r t => cases t with
    | cons r2 t2 => cases t2; exact ⟨_, _, rfl, r, r2⟩
theorem bi_isi (O : Ops G X) (B : TbIs G T) {q : Bool} {h : MH} {H : Hp} {L : Lay} {lam : Nat → Option Addr} {px : Addr → Nat → Prop} {Q : VK} {Z : Nat → MH → Prop} {x y : EV} {u v : V} (r : HR G L h H) (k1 : ER G px L h.length H lam x u) (k2 : ER G px L h.length H lam y v)
    (z : (evIsi T x y h).Post (Val G q L h H Q) Z) : rIsi G.K [u, v] H Q := by
  unfold evIsi at z
  cases y with
  | w c p => exact z.elim
  | x c => exact z.elim
  | v y =>
    cases y with
    | ty t =>
      cases k2
      dsimp only at z
      cases hk : kindOf x h with
      | none => simp only [hk, Option.bind_none] at z; exact z.elim
      | some k =>
        simp only [hk, Option.bind_some] at z
        cases hb : isTy T k t with
        | none => simp only [hb] at z; exact z.elim
        | some b =>
          simp only [hb] at z
          have q := here_bl z r
          rcases kind_of O r k1 hk with ⟨n, e1, e2⟩ | ⟨c, rfl, e2⟩
          · have e3 : tyIs n t = some b := by
              cases k <;> simp [isTy, kindTy] at hb e1 <;> subst e1 <;> exact hb
            exact ⟨u, .ty t, _, _, b, rfl, .ty t, e2, kit_ty (tyIs_ok e1 e3), q⟩
          · obtain ⟨i, e3⟩ := B.isa c t b hb
            exact ⟨u, .ty t, _, _, b, rfl, .ty t, e2 i, e3, q⟩
    | cls d =>
      cases k2
      dsimp only at z
      cases hk : kindOf x h with
      | none => simp only [hk, Option.bind_none] at z; exact z.elim
      | some k =>
        simp only [hk, Option.bind_some] at z
        cases hb : isCl T k d with
        | none => simp only [hb] at z; exact z.elim
        | some b =>
          simp only [hb] at z
          have q := here_bl z r
          rcases kind_of O r k1 hk with ⟨n, e1, e2⟩ | ⟨c, rfl, e2⟩
          · have e3 : T.own d = true ∧ b = false := by
              by_cases ho : T.own d = true
              · refine ⟨ho, ?_⟩
                cases k <;> simp [isCl, kindTy, ho] at hb e1 <;> exact hb
              · cases k <;> simp [isCl, kindTy, ho] at hb e1
            obtain ⟨ho, rfl⟩ := e3
            exact ⟨u, .ref (G.ca d), _, _, false, rfl, .own _, e2, B.own d n ho ⟨k, e1⟩, q⟩
          · obtain ⟨t, b', e4⟩ := B.ins c d b hb
            obtain ⟨i, _⟩ := B.isa c t b' e4
            exact ⟨u, .ref (G.ca d), _, _, b, rfl, .own _, e2 i, B.sub c d b hb i, q⟩
    | _ => exact z.elim
theorem bi_all (O : Ops G X) (B : TbIs G T) (b : Bi) : BiR G T b (biOk G X b) := by
  intro px lam q L h H Q Z xs us r ks z
  unfold evBi at z
  rcases xs with _ | ⟨x, _ | ⟨y, _ | ⟨_, _⟩⟩⟩
  · exact z.elim
  · obtain ⟨u, rfl, k⟩ := Vrs1 ks
    cases b with
    | len =>
      have z : (evLen x h).Post (Val G q L h H Q) Z := z
      unfold evLen at z
      cases e : lenOf x h with
      | none => rw [e] at z; exact z.elim
      | some n =>
        rw [e] at z
        have gen : (match seqOf x h with
          | some xs => some xs.length
          | none => (match ctOf x h with
            | some (.dK ks _) => some ks.length
            | _ => none)) = some n → biOk G X .len [u] H Q := fun e => by
          cases hs : seqOf x h with
          | none =>
            rw [hs] at e
            dsimp only at e
            cases hc : ctOf x h with
            | none => rw [hc] at e; cases e
            | some c =>
              rw [hc] at e
              cases c with
              | dK ks vs =>
                cases e
                obtain ⟨a, o, rfl, e2, e3⟩ := ct_of r k hc
                cases e3 with
                | dK l rv =>
                  refine .inr (.inr ⟨a, _, rfl, e2, ?_⟩)
                  rw [List.length_zip, ← l, Nat.min_self]
                  exact here_int z r
              | _ => cases e
          | some xs =>
            rw [hs] at e
            cases e
            obtain ⟨a, ys, rfl, hq, rv⟩ := seq_of r k hs
            exact .inl ⟨a, ys, rfl, hq, by rw [← rv.length]; exact here_int z r⟩
        cases x with
        | w c p => exact gen e
        | x c => exact gen e
        | v x =>
          cases x with
          | str s =>
            cases k
            have e : (if s.length ≤ sizeLine then some s.length else none) = some n := e
            by_cases c : s.length ≤ sizeLine
            · rw [if_pos c] at e; cases e
              exact .inr (.inl ⟨s, rfl, c, here_int z r⟩)
            · rw [if_neg c] at e; cases e
          | _ => exact gen e
    | ord =>
      have z : (evOrd x h).Post (Val G q L h H Q) Z := z
      cases x with
      | v x => cases x with
        | str s =>
          cases k
          obtain ⟨c, z⟩ := post_if (show (if s.length = 1 then Res.ok (MV.int ((s.cps.getD 0 0 : Nat) : Int)) h else .bad).Post (Val G q L h H Q) Z from z)
          exact ⟨s, rfl, c, here_int z r⟩
        | _ => exact z.elim
      | _ => exact z.elim
    | int =>
      have z : (evInt x h).Post (Val G q L h H Q) Z := z
      cases x with
      | v x => cases x with
        | int i => cases k; exact .inl (.inl ⟨i, rfl, here_int z r⟩)
        | bl i => cases k; exact .inl (.inr ⟨i, rfl, here_int z r⟩)
        | str s =>
          cases k
          unfold evInt at z
          dsimp only at z
          cases e : PySem.intText? s with
          | none => rw [e] at z; exact z.elim
          | some n =>
            rw [e] at z
            obtain ⟨c, z⟩ := post_if (show (if s.length ≤ 640 then Res.ok (MV.int n) h else .bad).Post (Val G q L h H Q) Z from z)
            exact .inr ⟨s, n, rfl, e, c, here_int z r⟩
        | _ => exact z.elim
      | _ => exact z.elim
    | str =>
      have z : (evStr x h).Post (Val G q L h H Q) Z := z
      cases x with
      | v x => cases x with
        | int i =>
          cases k
          obtain ⟨c, z⟩ := post_if (show (if i.natAbs.log2 < 1920 then Res.ok (MV.str (toString i : String)) h else .bad).Post (Val G q L h H Q) Z from z)
          exact .inl ⟨i, rfl, c, here_str z r⟩
        | str s => cases k; exact .inr ⟨s, rfl, here_str z r⟩
        | _ => exact z.elim
      | _ => exact z.elim
    | tuple =>
      have z : (evTup x h).Post (Val G q L h H Q) Z := z
      have gen : (match lstOf x h with
          | some xs => Res.ok (MV.tup xs) h
          | none => .bad).Post (Val G q L h H Q) Z → biOk G X .tuple [u] H Q := fun z => by
        cases hs : lstOf x h with
        | none => rw [hs] at z; exact z.elim
        | some xs =>
          rw [hs] at z
          obtain ⟨a, ys, rfl, hq, rv⟩ := lst_of r k hs
          exact ⟨a, ys, rfl, .inl ⟨SqL.of hq, fun l hl => new_tup z r rv hl⟩⟩
      cases x with
      | w c p => exact gen z
      | x c => exact gen z
      | v x =>
        cases x with
        | tup vs =>
          cases k with
          | tup t rv => exact ⟨_, _, rfl, .inr ⟨t.sq r, val_here (show Val G q L h H Q (.tup vs) h from z) r (.tup t rv)⟩⟩
        | _ => exact gen z
    | sum =>
      have z : (evSum x h).Post (Val G q L h H Q) Z := z
      unfold evSum at z
      cases hs : lstOf x h with
      | none => simp only [hs, Option.bind_none] at z; exact z.elim
      | some xs =>
        simp only [hs, Option.bind_some] at z
        cases hi : intsOf xs with
        | none => simp only [hi] at z; exact z.elim
        | some ns =>
          simp only [hi] at z
          obtain ⟨a, ys, rfl, hq, rv⟩ := lst_of r k hs
          have e := ints_of rv hi
          subst e
          exact ⟨a, ns, rfl, SqL.of hq, here_int z r⟩
    | _ => exact z.elim
  · obtain ⟨u, v, rfl, k1, k2⟩ := Vrs2 ks
    cases b with
    | isinst => exact bi_isi O B r k1 k2 z
    | max =>
      have z : (evMm (fun i j => if j > i then j else i) x y h).Post (Val G q L h H Q) Z := z
      cases x with
      | v x => cases x with
        | int i => cases y with
          | v y => cases y with
            | int j => cases k1; cases k2; exact ⟨i, j, rfl, here_int z r⟩
            | _ => exact z.elim
          | _ => exact z.elim
        | _ => cases y with
          | v y => cases y <;> exact z.elim
          | _ => exact z.elim
      | _ => exact z.elim
    | min =>
      have z : (evMm (fun i j => if j < i then j else i) x y h).Post (Val G q L h H Q) Z := z
      cases x with
      | v x => cases x with
        | int i => cases y with
          | v y => cases y with
            | int j => cases k1; cases k2; exact ⟨i, j, rfl, here_int z r⟩
            | _ => exact z.elim
          | _ => exact z.elim
        | _ => cases y with
          | v y => cases y <;> exact z.elim
          | _ => exact z.elim
      | _ => exact z.elim
    | _ => exact z.elim
  · exact z.elim
variable {call : Nat → List MV → MH → Res MV} {E : Ent} {W : WX} {q : Bool} {pos p : Pos} {a : Expr} {es : List Expr} {xs : Exs}
/-- a built-in by name -/
theorem mp_bi (O : Ops G X) (B : TbIs G T) {b : Bi} {x : Str} (cm : b.hot = true → X.calm = true) (ex : x = b.name) (hg : Gl X x) (hm : X.mg x = none) (oka : okE a = true) (oks : es.all okE = true) (ha : PA X (a :: es) (rdX G E W q (denE T call xs))) :
    PE X (.Call (.Name x p) (a :: es) [] pos) (rd G E W q (den T call (.bi b xs))) := by
  have hb : bootBuiltins x = some b.fn := by rw [ex]; exact b.boot
  have hn : x ≠ "__name__" := by rw [ex]; cases b <;> decide
  have hd : (x == ("__debug__" : Str)) = false := by rw [ex]; cases b <;> decide
  have base : PE X (.Call (.Name x p) (a :: es) [] pos) (tCB (biOk G X b) (rdX G E W q (denE T call xs))) := by
    have hc := bi_call O b cm
    have f1 : b.fn = .builtin b.name ∨ b.fn = .type b.name := by cases b <;> first | exact .inl rfl | exact .inr rfl
    rcases f1 with f1 | f1
    · rw [f1] at hc hb
      exact pe_callB hc hg hm hb ha hn hd (star_of oka es X.env) (anys_of oks pos)
    · rw [f1] at hc hb
      exact pe_callTy hc hg hm hb ha hn hd (star_of oka es X.env) (anys_of oks pos)
  refine base.imp fun σ H Q ⟨L, lam, σm, h, p, z⟩ => ?_
  rw [den] at z
  dsimp only at z
  refine rdX_seq p z fun ys h1 L1 H1 us e1 s1 r1 z1 => ?_
  exact bi_all O B b E.px lam q L1 h1 H1 Q _ ys us s1.hr r1 (Post.imp (Post.bind z1) (fun v h2 z2 L2 H2 x s2 r2 => z2 L2 H2 x (s1.trans s2) r2) fun _ _ z => z)
end
end MP
set_option Elab.async false
set_option linter.all false
set_option autoImplicit false
set_option maxRecDepth 100000
set_option maxHeartbeats 4000000
/-! MP, part l: expressions: calls of functions and methods, new instances. -/
namespace MP
open PySem PySem.Spec L2
/-- the promise of a function whose meaning is m -/
def spEv (G : Gb) (m : List MV → MH → Res MV) : Sp := fun vs H Q E => ∃ L h xs, HR G L h H ∧ VRs G L h.length xs vs ∧ (m xs h).Post (Val G false L h H Q) (fun c h' => ∀ L' H', Step G false L h H L' h' H' → E (G.cv c) none H')
def FnAt (G : Gb) (X : Cx) (j : Nat) (call : Nat → List MV → MH → Res MV) (f : Nat) : Prop :=
  ∃ fd ps, FnOk X.prog X.w X.K X.mg X.base (L2.CX X.prog X.w) j (G.fa f) fd ps (spEv G (call f)) ∧ Binds X.K fd ps [] ∧ PySem.W.keepIn X.K (.ref (G.fa f)) = true
/-- what may be called -/
structure Cal (G : Gb) (T : Tb) (X : Cx) (j : Nat) (call : Nat → List MV → MH → Res MV) (has : Nat → Bool) : Prop where
  fn : ∀ f, has f = true → FnAt G X j call f
  meth : ∀ c m f, T.meth c m = some f → FnAt G X j call f
  init : ∀ c f, T.init c = some f → FnAt G X j call f
  room : Room (j + 1) X.A
theorem meth_tree {o : Expr} {m : Str} {apos pos : Pos} {es : List Expr} {env : Env} (oko : okE o = true) (oks : es.all okE = true) (hn : es.length < 30) (hl : (apos.endLine == pos.line) = true) :
    eval (.Call (.Attribute o m apos) es [] pos) env = (do
      let ov ← eval o env
      standAt apos.atName
      let (f, first) ← holding [ov] (getMethod ov m (do return (← importBound o env).getD true))
      callWith pos f first (backTo pos (starEach es env)) (backToKw pos (keywordEach [] env))) := by
  have e : eval (.Call (.Attribute o m apos) es [] pos) env = (do
      let ov ← attributeBase o m env (eval o env)
      standAt apos.atName
      methodCall o m apos pos env ov (es.length + 0) (backTo pos (starEach es env)) (backToKw pos (keywordEach [] env))) := rfl
  rw [e, base_of oko]
  have hall : (backTo pos (starEach es env)).all (fun x => !x.1) = true := by
    have h := anys_of (env := env) oks pos
    rw [List.all_eq_true]
    intro x hx
    rw [List.any_eq_false] at h
    have := h x hx
    simpa using this
  have hf : methodCallForm (es.length + 0) (backTo pos (starEach es env)) (backToKw pos (keywordEach [] env)) = true := by
    unfold methodCallForm
    rw [hall]
    simp [backToKw, keywordEach, hn]
  have hp : methodCallPos true o env apos pos = pure pos := by
    unfold methodCallPos
    rw [hl]
    rfl
  unfold methodCall
  rw [hf, hp]
  rfl
section
variable {T : Tb} {call : Nat → List MV → MH → Res MV} {has : Nat → Bool} {G : Gb} {E : Ent} {W : WX} {X : Cx} {q qa : Bool} {j : Nat} {pos p apos : Pos} {a b c : Expr} {ea eb ec : Ex} {es : List Expr} {xs : Exs} {x : Str}
/-- f(e, ..) -/
theorem pe_callW {k : Nat} {f : Addr} {fd : FuncData} {ps : List Str} {sp : Sp} {t : TA} {e : Expr} (F : FnOk X.prog X.w X.K X.mg X.base (L2.CX X.prog X.w) k f fd ps sp) (hr : Room k X.A) (tk : Takes X W) (hg : Gl X x) (hm : X.mg x = some (.ref f)) (hk : PySem.W.keepIn X.K (.ref f) = true) (hb : Binds X.K fd ps [])
    (ha : PA X (e :: es) t) (oke : okE e = true) (oks : es.all okE = true) (hd : (x == ("__debug__" : Str)) = false) : PE X (.Call (.Name x p) (e :: es) [] pos) (fun σ H Q => t σ H fun vs H1 => sp vs H1 Q (WE W σ)) := by
  refine ⟨fun pins s σ H Q I h => ?_⟩
  refine wpAny_Call_Name_kw (ld_glob I hg hm ?_ hd)
  refine PySem.W.callWith_K (h₀ := X.base) I.ok.mod.kin hk (thn (ha.run pos pins s σ H _ I h) fun us s1 ⟨vs, H1, I1, r, q⟩ => ⟨I1.kIn, ?_⟩) (star_of oke es X.env) (anys_of oks pos)
  exact run_fnSD (dvs := []) F hr hb .nil (passAt tk σ) I1 r (by rw [List.append_nil]; exact q)
/-- f() -/
theorem pe_callW0 {k : Nat} {f : Addr} {fd : FuncData} {ps : List Str} {sp : Sp} (F : FnOk X.prog X.w X.K X.mg X.base (L2.CX X.prog X.w) k f fd ps sp) (hr : Room k X.A) (tk : Takes X W) (hg : Gl X x) (hm : X.mg x = some (.ref f)) (hk : PySem.W.keepIn X.K (.ref f) = true) (hb : Binds X.K fd ps [])
    (hd : (x == ("__debug__" : Str)) = false) : PE X (.Call (.Name x p) [] [] pos) (fun σ H Q => sp [] H Q (WE W σ)) := by
  refine ⟨fun pins s σ H Q I h => ?_⟩
  refine wpAny_Call_Name_kw (ld_glob I hg hm ?_ hd)
  exact PySem.W.callWith_K0 I.kIn hk (run_fnSD (us := []) (vs := []) (dvs := []) F hr hb .nil (passAt tk σ) I .nil h)
/-- the promise, at values -/
theorem sp_of {m : List MV → MH → Res MV} {P : EV → MH → Prop} {ys : List MV} {us : List V} {L L1 : Lay} {h h1 : MH} {H H1 : Hp} {σ : L2.St} {Q : VK} (s1 : Step G qa L h H L1 h1 H1) (r1 : VRs G L1 h1.length ys us) (hP : ∀ v h2 L2 H2 u, P (.v v) h2 → Step G false L h H L2 h2 H2 → VR G L2 h2.length v u → Q u H2)
    (z : ((m ys h1).bind fun v h2 => .ok (.v v) h2).Post P (Rai G L1 h1 H1 W σ)) : spEv G m us H1 Q (WE W σ) :=
  ⟨L1, h1, ys, s1.hr, r1, Post.imp (Post.bind z) (fun v h2 z2 L2 H2 u s2 r2 => hP v h2 L2 H2 u z2 (s1.any.trans s2) r2) fun _ _ z => z⟩
theorem mp_call {f : Nat} {e : Expr} (F : FnAt G X j call f) (hr : Room j X.A) (tk : Takes X W) (hg : Gl X x) (hm : X.mg x = some (.ref (G.fa f))) (hd : (x == ("__debug__" : Str)) = false) (ha : PA X (e :: es) (rdA G E W qa (dens T call xs))) (oke : okE e = true) (oks : es.all okE = true) :
    PE X (.Call (.Name x p) (e :: es) [] pos) (rd G E W false (den T call (.call f xs))) := by
  obtain ⟨fd, ps, F, hb, hk⟩ := F
  refine (pe_callW F hr tk hg hm hk hb ha oke oks hd).imp fun σ H Q ⟨L, lam, σm, h, p, z⟩ => ?_
  rw [den] at z
  dsimp only at z
  refine rdA_seq p z fun ys h1 L1 H1 us e1 s1 r1 z1 => ?_
  exact sp_of s1 r1 (fun v h2 L2 H2 u z s r => z L2 H2 u s r) z1
theorem mp_call0 {f : Nat} (F : FnAt G X j call f) (hr : Room j X.A) (tk : Takes X W) (hg : Gl X x) (hm : X.mg x = some (.ref (G.fa f))) (hd : (x == ("__debug__" : Str)) = false) :
    PE X (.Call (.Name x p) [] [] pos) (rd G E W false (den T call (.call f .nil))) := by
  obtain ⟨fd, ps, F, hb, hk⟩ := F
  refine (pe_callW0 F hr tk hg hm hk hb hd).imp fun σ H Q ⟨L, lam, σm, h, p, z⟩ => ?_
  rw [den] at z
  dsimp only at z
  rw [dens] at z
  exact sp_of (Step.refl (q := false) p.hr) .nil (fun v h2 L2 H2 u z s r => z L2 H2 u s r) z
/-- o.m(..) -/
theorem mp_meth {m : String} (O : Ops G X) (B : TbOk G T) (C : Cal G T X j call has) (tk : Takes X W) (ex : x = m) (ha : PE X a (rd G E W qa (den T call ea))) (oka : okE a = true) (hs : (es = [] ∧ xs = .nil) ∨ ∃ e es', es = e :: es' ∧ PA X es (rdA G E W false (dens T call xs))) (oks : es.all okE = true) (hn : es.length < 30)
    (hl : (apos.endLine == pos.line) = true) : PE X (.Call (.Attribute a x apos) es [] pos) (rd G E W false (den T call (.meth ea m xs))) := by
  subst ex
  refine ⟨fun pins s σ H Q I z => ?_⟩
  refine methcall_of (te := rd G E W qa (den T call ea)) ha I ?_ (meth_tree oka oks hn hl)
  obtain ⟨L, lam, σm, h, p, z⟩ := z
  rw [den] at z
  dsimp only at z
  refine rd_vb p z fun x h1 L1 H1 u e1 s1 r1 z1 => ?_
  have hr : Room j X.A := C.room.mono (Nat.le_succ _)
  -- what is known of the receiver
  have fin : ∀ {c : Nat} {dx a : Addr} {ys : List (Str × V)}, clsOf x m h1 = some c → u = .ref a → H1 a = some (.ins (G.ca c) dx ys) → ys.lookup (Str.ofString m) = none →
      ∃ a C dx fs g, u = .ref a ∧ H1 a = some (.ins C dx fs) ∧ Cls X.K C ∧ Meth X.K C (Str.ofString m) g ∧ fs.lookup (Str.ofString m) = none ∧
        ∀ s1, L2.Inv X pins σ H1 s1 → wpAny (model X.prog X.w) X.A (callWith pos (.ref g) [.ref a] (backTo pos (starEach es X.env)) (backToKw pos (keywordEach [] X.env))) (EP X pins σ Q) X.xe s1 := fun {c dx a ys} hc hu ho hl => by
    rw [hc] at z1
    simp only [Option.bind_some] at z1
    cases hm : T.meth c m with
    | none => simp only [hm] at z1; exact z1.elim
    | some f =>
      simp only [hm] at z1
      obtain ⟨cl, me⟩ := B.meth c m f hm
      obtain ⟨fd, ps, F, hb, hk⟩ := C.meth c m f hm
      refine ⟨a, _, dx, ys, _, hu, ho, by rw [O.K]; exact cl, by rw [O.K]; exact me, hl, fun s2 I2 => ?_⟩
      subst hu
      rcases hs with ⟨rfl, rfl⟩ | ⟨e, es', rfl, hA⟩
      · rw [dens] at z1
        have sp : spEv G (call f) [.ref a] H1 Q (WE W σ) := sp_of s1 (.cons r1 .nil) (fun v h2 L2 H2 u z s r => z L2 H2 u s r) z1
        exact PySem.W.callWith_K0 (first := [.ref a]) I2.kIn hk (run_fnSD (us := [.ref a]) (vs := [.ref a]) (dvs := []) F hr hb .nil (passAt tk σ) I2 (.cons rfl .nil) sp)
      · rw [List.all_cons, Bool.and_eq_true] at oks
        have q : rdA G E W false (dens T call xs) σ H1 fun vs H2 => spEv G (call f) (.ref a :: vs) H2 Q (WE W σ) := by
          refine rdA_seq (p.step s1) z1 fun ys h2 L2 H2 us e2 s2 r2 z2 => ?_
          exact sp_of (s1.any.trans s2) (.cons (s2.vr r1) r2) (fun v h2 L2 H2 u z s r => z L2 H2 u s r) z2
        refine PySem.W.callWith_K (first := [.ref a]) (h₀ := X.base) I.ok.mod.kin hk (thn (hA.run pos pins s2 σ H1 _ I2 q) fun us s3 ⟨vs, H3, I3, r, q3⟩ => ⟨I3.kIn, ?_⟩) (star_of oks.1 es' X.env) (anys_of oks.2 pos)
        exact run_fnSD (us := .ref a :: us) (vs := .ref a :: vs) (dvs := []) F hr hb .nil (passAt tk σ) I3 (.cons rfl r) (by rw [List.append_nil]; exact q3)
  cases x with
  | ref n =>
    cases r1 with
    | ref hn' al =>
      cases hc : h1[n]? with
      | none => simp only [clsOf, hc, Option.bind_none] at z1; exact z1.elim
      | some cl =>
        cases cl with
        | ct c => simp only [clsOf, hc, Option.bind_none] at z1; exact z1.elim
        | lk c => simp only [clsOf, hc, Option.bind_none] at z1; exact z1.elim
        | ins c fs =>
          obtain ⟨a', o, e2, e3, e4⟩ := s1.hr.cell n _ hc
          rw [al] at e2; cases e2
          cases e4 with
          | ins rf =>
            by_cases hg : (getF fs m).isNone = true
            · exact fin (by simp [clsOf, hc, hg]) rfl e3 (rf.none (by simpa using hg))
            · simp only [clsOf, hc, hg, Option.bind_none] at z1; exact z1.elim
  | ins c fs vs =>
    cases r1 with
    | ins hf hl rv =>
      by_cases hg : ((fs.zip vs).lookup m).isNone = true
      · exact fin (by simp [clsOf, hg]) rfl (s1.hr.fz _ _ hf) (zip_none hl rv (by simpa using hg))
      · simp only [clsOf, hg, Option.bind_none] at z1; exact z1.elim
  | _ => simp only [clsOf, Option.bind_none] at z1; exact z1.elim
end
end MP
set_option Elab.async false
set_option linter.all false
set_option autoImplicit false
set_option maxRecDepth 100000
set_option maxHeartbeats 4000000
/-! MP, part l2: len(o) of an instance with an own __len__. -/
namespace MP
open PySem PySem.Spec L2
section
variable {T : Tb} {call : Nat → List MV → MH → Res MV} {has : Nat → Bool} {G : Gb} {E : Ent} {W : WX} {X : Cx} {q qa : Bool} {j : Nat} {pos p : Pos} {a : Expr} {ea : Ex} {x : Str}
/-- len(o) -/
theorem mp_lenO (O : Ops G X) (B : TbOk G T) (C : Cal G T X j call has) (tk : Takes X W) (ex : x = ("len" : Str)) (hg : Gl X x) (hm : X.mg x = none) (ha : PE X a (rd G E W qa (den T call ea))) (oka : okE a = true) :
    PE X (.Call (.Name x p) [a] [] pos) (rd G E W false (den T call (.lenO ea))) := by
  subst ex
  refine ⟨fun pins s σ H Q I z => ?_⟩
  obtain ⟨L, lam, σm, h, p, z⟩ := z
  rw [den] at z
  dsimp only at z
  have hr : Room j X.A := C.room.mono (Nat.le_succ _)
  have key : rd G E W qa (den T call ea) σ H (fun u H1 => ∃ al, [u] = [V.ref al] ∧ ∀ s1, L2.Inv X pins σ H1 s1 → wpAny (model X.prog X.w) X.A (PySem.call (.builtin "len") [.ref al]) (EP X pins σ Q) X.xe s1) := by
    refine rd_vb p z fun x h1 L1 H1 u e1 s1 r1 z1 => ?_
    have fin : ∀ {c : Nat} {dx a : Addr} {ys : List (Str × V)}, clsOf x "__len__" h1 = some c → u = .ref a → H1 a = some (.ins (G.ca c) dx ys) →
        ∃ al, [u] = [V.ref al] ∧ ∀ s1, L2.Inv X pins σ H1 s1 → wpAny (model X.prog X.w) X.A (PySem.call (.builtin "len") [.ref al]) (EP X pins σ Q) X.xe s1 := fun {c dx a ys} hc hu ho => by
      rw [hc] at z1
      simp only [Option.bind_some] at z1
      cases hm : T.meth c "__len__" with
      | none => simp only [hm] at z1; exact z1.elim
      | some f =>
        simp only [hm] at z1
        obtain ⟨cl, me⟩ := B.meth c "__len__" f hm
        obtain ⟨fd, ps, F, hb, hk⟩ := C.meth c "__len__" f hm
        refine ⟨a, by rw [hu], fun s2 I2 => ?_⟩
        subst hu
        have sp : spEv G (call f) [.ref a] H1 (fun v H2 => ∃ i, v = .int i ∧ (0 ≤ i ∧ i < 2 ^ 62) ∧ Q (.int i) H2) (WE W σ) := by
          refine ⟨L1, h1, [x], s1.hr, .cons r1 .nil, ?_⟩
          refine Post.imp (Post.bind z1) (fun v h2 z2 L2 H2 u s2 r2 => ?_) fun _ _ z => z
          cases v with
          | int i =>
            dsimp only at z2
            by_cases hi : 0 ≤ i ∧ i < 2 ^ 62
            · rw [if_pos hi] at z2
              cases r2
              have er : ER G E.px L2 h2.length H2 lam (.v (.int i)) (.int i) := VR.int i
              exact ⟨i, rfl, hi, z2 L2 H2 _ (s1.any.trans s2) er⟩
            · rw [if_neg hi] at z2; exact z2.elim
          | _ => exact z2.elim
        obtain ⟨m, hF⟩ := I2.fr
        obtain ⟨mA, J, _⟩ := ins_get I2.hok ho
        obtain ⟨od, J, _⟩ := J.look
        refine PySem.W.len_K hF I2.ok.mod.kin J (by rw [O.K]; exact me.at_) (by rw [O.K]; exact me.fn) ?_
        have hl := F.len _ _ _ _ sp
        refine wpAny_call (codeAny_mono (F.run X.A.in1 X.stack s2 H1 ⟨[.ref a], []⟩ [.ref a] [.ref a] _ (WE W σ) C.room.in1 I2.env0.in1 (hb s2 [.ref a] I2.kIn (by simpa using hl)) (.cons rfl .nil) sp) fun r s' hq => ?_)
        cases r with
        | error e => exact passAt tk σ pins H1 s2 e s' I2 hq
        | ok fl =>
          cases fl with
          | ret u =>
            obtain ⟨v, H', I3, rv, i, rfl, hi, q3⟩ := I2.after hq
            obtain ⟨t, rfl⟩ := rv
            exact ⟨⟨hi.1, by omega⟩, .int i, H', I3.kept (fun _ _ e => e), ⟨_, rfl⟩, q3⟩
          | next => exact False.elim hq
          | brk => exact False.elim hq
          | cont => exact False.elim hq
    cases x with
    | ref n =>
      cases r1 with
      | ref hn' al =>
        cases hc : h1[n]? with
        | none => simp only [clsOf, hc, Option.bind_none] at z1; exact z1.elim
        | some cl =>
          cases cl with
          | ct c => simp only [clsOf, hc, Option.bind_none] at z1; exact z1.elim
          | lk c => simp only [clsOf, hc, Option.bind_none] at z1; exact z1.elim
          | ins c fs =>
            obtain ⟨a', o, e2, e3, e4⟩ := s1.hr.cell n _ hc
            rw [al] at e2; cases e2
            cases e4 with
            | ins rf =>
              by_cases hg : (getF fs "__len__").isNone = true
              · exact fin (by simp [clsOf, hc, hg]) rfl e3
              · simp only [clsOf, hc, hg, Option.bind_none] at z1; exact z1.elim
    | ins c fs vs =>
      cases r1 with
      | ins hf hl rv =>
        by_cases hg : ((fs.zip vs).lookup "__len__").isNone = true
        · exact fin (by simp [clsOf, hg]) rfl (s1.hr.fz _ _ hf)
        · simp only [clsOf, hg, Option.bind_none] at z1; exact z1.elim
    | _ => simp only [clsOf, Option.bind_none] at z1; exact z1.elim
  refine wpAny_Call_Name_kw (ld_blt I hg hm (u := .builtin "len") (by kernel_rfl) ?_ (by decide) (by decide))
  refine PyProof.Rows.callWith_builtin1 (thn ((pa_cons ha pa_nil (star_of oka [] X.env)).run pos pins s σ H (fun vs H1 => ∃ al, vs = [V.ref al] ∧ ∀ s1, L2.Inv X pins σ H1 s1 → wpAny (model X.prog X.w) X.A (PySem.call (.builtin "len") [.ref al]) (EP X pins σ Q) X.xe s1) I key) fun us s1 ⟨vs, H1, I1, r1, al, e1, q1⟩ => ?_) (star_of oka [] X.env) (anys_of (by simp) pos)
  subst e1
  obtain ⟨u, rfl, ru⟩ := vals1 r1
  cases ru
  exact q1 s1 I1
end
end MP
set_option Elab.async false
set_option linter.all false
set_option autoImplicit false
set_option maxRecDepth 100000
set_option maxHeartbeats 4000000
/-! MP, part m: new instances; fresh containers. -/
namespace MP
open PySem PySem.Spec L2
section
variable {T : Tb} {call : Nat → List MV → MH → Res MV} {has : Nat → Bool} {G : Gb} {E : Ent} {W : WX} {X : Cx} {q qa qb qc : Bool} {j : Nat} {pos p p2 apos : Pos} {a b c : Expr} {ea eb ec : Ex} {es : List Expr} {xs : Exs} {x : Str}
/-! ### new instances -/
theorem run_makeW {k : Nat} {C f : Addr} {fd : FuncData} {ps : List Str} {sp : Sp} {pins : List (Addr × Obj)} {σ : L2.St} {H : Hp} {s : Shared} {Q : VK} {us : List Value} {vs : List V} (M : Mk X.K C f) (F : FnOk X.prog X.w X.K X.mg X.base (L2.CX X.prog X.w) k f fd ps sp) (hr : Room (k + 1) X.A) (tk : Takes X W) (hb : Binds X.K fd ps [])
    (I : L2.Inv X pins σ H s) (r : Vals vs us)
    (h : ∀ x dx, H x = none → H dx = none → dx ≠ x → sp (.ref x :: vs) (upd (upd H dx (.own x)) x (.ins C dx [])) (fun v H2 => v = .non ∧ Q (.ref x) H2) (WE W σ)) :
    wpAny (model X.prog X.w) X.A (PySem.call (.ref C) us) (EP X pins σ Q) X.xe s := by
  have hq := h (s.heap.objs.size + 1) s.heap.objs.size (I.hok.fresh (Nat.le_succ _)) (I.hok.fresh (Nat.le_refl _)) (Nat.ne_of_lt (Nat.lt_succ_self _))
  have I2 := Inv.made (C := C) I
  have r2 : Vals (V.ref (s.heap.objs.size + 1) :: vs) (Value.ref (s.heap.objs.size + 1) :: us) := .cons rfl r
  have hl : (Value.ref (s.heap.objs.size + 1) :: us ++ []).length = ps.length := by
    rw [List.append_nil]
    have e := r2.length
    rw [F.len _ _ _ _ hq] at e
    exact e.symm
  have hb' := hb _ (Value.ref (s.heap.objs.size + 1) :: us) I2.kIn hl
  rw [List.append_nil] at hb'
  refine wpAny_call (make_map (f := f) I.kIn M.makes M.init (beq_iff_eq.mp M.fn) (codeAny_mono (F.run _ X.stack _ _ ⟨Value.ref (s.heap.objs.size + 1) :: us, []⟩ (Value.ref (s.heap.objs.size + 1) :: us) _ _ (WE W σ) (hr.make C us [])
    (I2.env0.make C us []) hb' r2 hq) fun r s' hq' => ?_))
  cases r with
  | error e => exact passAt tk σ pins _ _ e s' I2 hq'
  | ok fl =>
    cases fl with
    | ret u =>
      obtain ⟨v, H', I3, rv, ev, q3⟩ := I2.after hq'
      subst ev
      exact ⟨rv, ⟨V.ref (s.heap.objs.size + 1), H', I3, rfl, q3⟩⟩
    | next => exact False.elim hq'
    | brk => exact False.elim hq'
    | cont => exact False.elim hq'
theorem mp_make {c : Nat} {f : Nat} (O : Ops G X) (B : TbOk G T) (C : Cal G T X j call has) (tk : Takes X W) (hi : T.init c = some f) (hg : Gl X x) (hm : X.mg x = some (.ref (G.ca c))) (hd : (x == ("__debug__" : Str)) = false) (hs : (es = [] ∧ xs = .nil) ∨ ∃ e es', es = e :: es' ∧ PA X es (rdA G E W false (dens T call xs))) (oks : es.all okE = true) :
    PE X (.Call (.Name x p) es [] pos) (rd G E W false (den T call (.make c xs))) := by
  have M := B.init c f hi
  rw [← O.K] at M
  obtain ⟨fd, ps, F, hb, hk⟩ := C.init c f hi
  -- the promise of __init__ at the new instance
  have fin : ∀ {L L1 : Lay} {h h1 : MH} {H H1 : Hp} {σ : L2.St} {ys : List MV} {us : List V} {Q : VK} {lam : Nat → Option Addr}, Step G false L h H L1 h1 H1 → VRs G L1 h1.length ys us →
      ((call f (.ref h1.length :: ys) (h1 ++ [.ins c []])).bind fun z h2 => (match z with
        | .non => .ok (.v (.ref h1.length)) h2
        | _ => .bad)).Post (Evs G E.px lam false L h H Q) (Rai G L1 h1 H1 W σ) →
      ∀ x dx, H1 x = none → H1 dx = none → dx ≠ x → spEv G (call f) (.ref x :: us) (upd (upd H1 dx (.own x)) x (.ins (G.ca c) dx [])) (fun v H2 => v = .non ∧ Q (.ref x) H2) (WE W σ) := fun {L L1 h h1 H H1 σ ys us Q lam} s1 r1 z x dx hx hdx ne => by
    have s2 : Step G false L1 h1 H1 L1 h1 (upd H1 dx (.own x)) := step_new false s1.hr hdx
    have hx2 : (upd H1 dx (.own x)) x = none := by rw [upd_ne (Ne.symm ne)]; exact hx
    have s3 : Step G false L1 h1 (upd H1 dx (.own x)) (L1.addC h1.length x) (h1 ++ [.ins c []]) (upd (upd H1 dx (.own x)) x (.ins (G.ca c) dx [])) := step_cell false s2.hr hx2 (.ins .nil)
    have s4 := s2.trans s3
    have ral : (L1.addC h1.length x).al h1.length = some x := by simp [Lay.addC]
    refine ⟨L1.addC h1.length x, h1 ++ [.ins c []], .ref h1.length :: ys, s3.hr, .cons (.ref (by simp) ral) (s4.vrs r1), Post.imp (Post.bind z) (fun v h2 z2 L5 H5 u s5 r5 => ?_) fun c' h' z => (show Rai G _ _ _ W σ c' h' from Rai.at s4 z)⟩
    cases v with
    | non =>
      cases r5
      exact ⟨rfl, z2 L5 H5 _ ((s1.trans s4).trans s5) (s5.vr (.ref (by simp) ral))⟩
    | _ => exact z2.elim
  refine ⟨fun pins s σ H Q I z => wpAny_Call_Name_kw (ld_glob I hg hm ?_ hd)⟩
  obtain ⟨L, lam, σm, h, p, z⟩ := z
  rw [den] at z
  dsimp only at z
  rcases hs with ⟨rfl, rfl⟩ | ⟨e, es', rfl, hA⟩
  · rw [dens] at z
    simp only [bind_ok, hi] at z
    exact PySem.W.callWith_K0 I.kIn M.kp (run_makeW (us := []) (vs := []) M F C.room tk hb I .nil (fin (.refl p.hr) .nil z))
  · rw [List.all_cons, Bool.and_eq_true] at oks
    have q : rdA G E W false (dens T call xs) σ H fun vs H2 => ∀ x dx, H2 x = none → H2 dx = none → dx ≠ x → spEv G (call f) (.ref x :: vs) (upd (upd H2 dx (.own x)) x (.ins (G.ca c) dx [])) (fun v H2 => v = .non ∧ Q (.ref x) H2) (WE W σ) := by
      refine rdA_seq p z fun ys h2 L2 H2 us e2 s2 r2 z2 => ?_
      simp only [hi] at z2
      exact fin s2 r2 z2
    refine PySem.W.callWith_K (h₀ := X.base) I.ok.mod.kin M.kp (thn (hA.run pos pins s σ H _ I q) fun us s3 ⟨vs, H3, I3, r, q3⟩ => ⟨I3.kIn, ?_⟩) (star_of oks.1 es' X.env) (anys_of oks.2 pos)
    exact run_makeW M F C.room tk hb I3 r q3
end
end MP
set_option Elab.async false
set_option linter.all false
set_option autoImplicit false
set_option maxRecDepth 100000
set_option maxHeartbeats 4000000
/-! MP, part n: fresh containers. -/
namespace MP
open PySem PySem.Spec L2
section
variable {G : Gb} {q : Bool} {L L' : Lay} {h h' : MH} {H H' : Hp} {p : Addr} {o : HO}
theorem ext_addF (f : L'.fz p = none) {b : Nat} : Ext b L' b (L'.addF p o) := ⟨Nat.le_refl _, fun _ _ _ z => z, fun a u e => by
  rw [show (L'.addF p o).fz = upd L'.fz p o from rfl, upd_ne (by rintro rfl; rw [f] at e; cases e)]; exact e⟩
/-- a container that nothing holds is from here on never changed -/
theorem adoptF (s : Step G q L h H L' h' H') (e : H' p = some o) (e0 : H p = none) (nh : ¬ Held L' p) (f : L'.fz p = none) : Step G q L h H (L'.addF p o) h' H' := by
  have x := ext_addF (o := o) f (b := h'.length)
  have ne : ∀ {a : Addr}, Held L' a → a ≠ p := fun z w => nh (w ▸ z)
  refine ⟨s.ext.trans x, ⟨fun a u z => ?_, s.hr.alive, s.hr.olive, s.hr.aa, s.hr.oo, s.hr.ao, fun n a z => ?_, fun n g a z => ?_, fun n c z => ?_⟩, s.frm, s.dom, s.new1, fun a z w => ?_, s.mon, s.lk⟩
  · by_cases ha : a = p
    · subst ha
      have : (L'.addF a o).fz a = some o := addF_at
      rw [this] at z; cases z; exact e
    · exact s.hr.fz a u ((upd_ne ha).symm.trans z)
  · exact (upd_ne (ne (.inl ⟨n, z⟩))).trans (s.hr.af n a z)
  · exact (upd_ne (ne (.inr ⟨n, g, z⟩))).trans (s.hr.of n g a z)
  · obtain ⟨a, u, e1, e2, e3⟩ := s.hr.cell n c z
    exact ⟨a, u, e1, e2, e3.keep x (fun _ _ z => z) fun _ _ _ _ z => z⟩
  · have ha : a ≠ p := by rintro rfl; rw [e0] at z; cases z
    rw [show (L'.addF p o).fz = upd L'.fz p o from rfl, upd_ne ha] at w
    exact s.new2 a z w
/-- .. becomes a cell -/
theorem adoptC {c : Ct} (s : Step G q L h H L' h' H') (e : H' p = some o) (e0 : H p = none) (nh : ¬ Held L' p) (f : L'.fz p = none) (r : CtR G L' h'.length c o) : Step G q L h H (L'.addC h'.length p) (h' ++ [.ct c]) H' := by
  have x : Ext h'.length L' (h' ++ [Cell.ct c]).length (L'.addC h'.length p) := ⟨by simp, fun m a hm z => by simp [Lay.addC, Nat.ne_of_lt hm, z], fun _ _ z => z⟩
  have alo : ∀ {m a}, m ≠ h'.length → (L'.addC h'.length p).al m = some a → L'.al m = some a := fun {m a} hm z => by simpa [Lay.addC, hm] using z
  have als : ∀ {a}, (L'.addC h'.length p).al h'.length = some a → a = p := fun {a} z => by simpa [Lay.addC] using z.symm
  refine ⟨s.ext.trans x, ⟨s.hr.fz, fun m a z => ?_, s.hr.olive, fun m m' a e1 e2 => ?_, s.hr.oo, fun m m' g a e1 e2 => ?_, fun m a z => ?_, s.hr.of, fun m c' z => ?_⟩, s.frm, s.dom, fun a z w => ?_, s.new2, s.mon, fun n c e => by
    obtain ⟨e1, e2⟩ := s.lk n c e
    exact ⟨by rw [List.getElem?_append_left (List.getElem?_eq_some_iff.mp e1).1]; exact e1, e2⟩⟩
  · by_cases hm : m = h'.length
    · subst hm; rw [als z, e]; rfl
    · exact s.hr.alive m a (alo hm z)
  · by_cases hm : m = h'.length
    · by_cases hm' : m' = h'.length
      · rw [hm, hm']
      · subst hm; exact absurd (.inl ⟨m', (als e1) ▸ alo hm' e2⟩) nh
    · by_cases hm' : m' = h'.length
      · subst hm'; exact absurd (.inl ⟨m, (als e2) ▸ alo hm e1⟩) nh
      · exact s.hr.aa m m' a (alo hm e1) (alo hm' e2)
  · by_cases hm : m = h'.length
    · subst hm; exact nh (.inr ⟨m', g, (als e1) ▸ e2⟩)
    · exact s.hr.ao m m' g a (alo hm e1) e2
  · by_cases hm : m = h'.length
    · subst hm; rw [als z]; exact f
    · exact s.hr.af m a (alo hm z)
  · by_cases hm : m < h'.length
    · rw [List.getElem?_append_left hm] at z
      obtain ⟨a, u, e1, e2, e3⟩ := s.hr.cell m c' z
      exact ⟨a, u, x.al m a hm e1, e2, e3.keep x (fun _ _ z => z) fun _ _ _ _ z => z⟩
    · have hl := (List.getElem?_eq_some_iff.mp z).1
      rw [List.length_append, List.length_singleton] at hl
      have hm' : m = h'.length := by omega
      subst hm'
      rw [List.getElem?_append_right (Nat.le_refl _)] at z
      have ec : c' = .ct c := by simpa using z.symm
      subst ec
      exact ⟨p, o, by simp [Lay.addC], e, .ct (r.mono x)⟩
  · rcases w with ⟨m, w⟩ | w
    · by_cases hm : m = h'.length
      · subst hm; rw [als w, e0] at z; cases z
      · exact s.new1 a z (.inl ⟨m, alo hm w⟩)
    · exact s.new1 a z (.inr w)
end
/-- a fresh container: it stands, nothing holds it -/
def rdF (G : Gb) (E : Ent) (W : WX) (q : Bool) (m : ML → MH → Res Ct) : TE := fun σ H Q => ∃ L lam σm h, Pt G E L lam σm h σ H ∧
  (m σm h).Post (fun c h' => ∀ L' H' p o, Step G q L h H L' h' H' → H' p = some o → H p = none → ¬ Held L' p → L'.fz p = none → CtR G L' h'.length c o → Q (.ref p) H') (Rai G L h H W σ)
section
variable {T : Tb} {call : Nat → List MV → MH → Res MV} {G : Gb} {E : Ent} {W : WX} {X : Cx} {q qa qb qc : Bool} {pos p2 p : Pos} {a b c : Expr} {ea eb ec : Ex} {es : List Expr} {xs : Exs} {x : Str}
/-- it was laid last -/
theorem new_ct {L L1 : Lay} {h h1 : MH} {H H1 : Hp} {c : Ct} {o : HO} {Q : VK} (s1 : Step G q L h H L1 h1 H1) (r : CtR G L1 h1.length c o) {a : Addr} (ha : H1 a = none)
    (z : ∀ L' H' p o, Step G q L h H L' h1 H' → H' p = some o → H p = none → ¬ Held L' p → L'.fz p = none → CtR G L' h1.length c o → Q (.ref p) H') : Q (.ref a) (upd H1 a o) := by
  refine z L1 (upd H1 a o) a o (s1.trans (step_new q s1.hr ha)) upd_same ?_ (fun w => ?_) ?_ r
  · cases e : H a with
    | none => rfl
    | some u => have := s1.dom a (by rw [e]; rfl); rw [ha] at this; cases this
  · have := held_some s1.hr w; rw [ha] at this; cases this
  · cases e : L1.fz a with
    | none => rfl
    | some u => have := s1.hr.fz a u e; rw [ha] at this; cases this
theorem mpf_lst (h : PA X es (rdA G E W q (dens T call xs))) : PE X (.List es pos) (rdF G E W q (denF T call (.lst xs))) :=
  (pe_lst h).imp fun σ H Q ⟨L, lam, σm, h, p, z⟩ => by
    rw [denF] at z
    dsimp only at z
    refine rdA_seq p z fun ys h1 L1 H1 us e1 s1 r1 z1 => ?_
    obtain ⟨c, z1⟩ := post_if z1
    exact ⟨by rw [← r1.length]; exact c, fun r hr => new_ct s1 (.lst r1) hr z1⟩
theorem mpf_dnew : PE X (.Dict [] [] pos) (rdF G E W q (denF T call .dnew)) :=
  pe_dnewK.imp fun σ H Q ⟨L, lam, σm, h, p, z⟩ => by
    rw [denF] at z
    exact fun r hr => new_ct (.refl p.hr) (.dK (ks := []) (xs := []) (ys := []) rfl .nil) hr z
theorem mpf_cat (O : Ops G X) (ha : PE X a (rd G E W qa (den T call ea))) (hb : PE X b (rd G E W qb (den T call eb))) (nf : ea.nofld = true ∨ qb = true) (ia : q = true → qa = true) (ib : q = true → qb = true) : PE X (.BinOp a .Add b pos) (rdF G E W q (denF T call (.cat ea eb))) :=
  (pe_op op_cat ha hb).imp fun σ H Q ⟨L, lam, σm, h, p, z⟩ => by
    rw [denF] at z
    dsimp only at z
    refine rd_seq p z fun x h1 L1 H1 u e1 s1 r1 z1 => ?_
    refine rd_seq (p.step s1) z1 fun y h2 L2 H2 v e2 s2 r2 z2 => ?_
    have r1' : ER G E.px L2 h2.length H2 lam x u := r1.step s2 fun w => by
      rcases nf with n | n
      · rw [nofld_of n _ _ _ _ e1] at w; cases w
      · exact n
    cases hx : lstOf x h2 with
    | none => rw [hx] at z2; exact z2.elim
    | some vs =>
      cases hy : lstOf y h2 with
      | none => rw [hx, hy] at z2; exact z2.elim
      | some ws =>
        rw [hx, hy] at z2
        obtain ⟨c, z2⟩ := post_if z2
        obtain ⟨a1, ys1, rfl, h3, v1⟩ := lst_of s2.hr r1' hx
        obtain ⟨a2, ys2, rfl, h4, v2⟩ := lst_of s2.hr r2 hy
        exact ⟨a1, a2, ys1, ys2, rfl, rfl, h3, h4, by rw [← v1.length, ← v2.length]; exact c, fun r hr => new_ct (s1.tr s2 ia ib) (.lst (v1.append v2)) hr z2⟩
theorem mpf_slc (O : Ops G X) {lo hi : Option Expr} {el eh : Exo} (ha : PE X a (rd G E W qa (den T call ea))) (hl : PO X lo (rdO G E W qb (denO T call el))) (hh : PO X hi (rdO G E W qc (denO T call eh))) (nf : ea.nofld = true ∨ (qb = true ∧ qc = true))
    (ia : q = true → qa = true) (ib : q = true → qb = true) (ic : q = true → qc = true) : PE X (.Subscript a (.Slice lo hi none p2) pos) (rdF G E W q (denF T call (.slc ea el eh))) := by
  have hs := sl_list (X := X)
  rw [O.K] at hs
  refine (pe_slice hs ha hl hh).imp fun σ H Q ⟨L, lam, σm, h, p, z⟩ => ?_
  rw [denF] at z
  dsimp only at z
  refine rd_seq (qa := qa) p z fun x h1 L1 H1 u e1 s1 r1 z1 => ?_
  refine rdO_seq (qa := qb) (p.step s1) z1 fun i h2 L2 H2 e2 s2 z2 => ?_
  refine rdO_seq (qa := qc) ((p.step s1).step s2) z2 fun j h3 L3 H3 e3 s3 z3 => ?_
  have r3 : ER G E.px L3 h3.length H3 lam x u := by
    refine (r1.step s2 fun w => ?_).step s3 fun w => ?_
    · rcases nf with n | n
      · rw [nofld_of n _ _ _ _ e1] at w; cases w
      · exact n.1
    · rcases nf with n | n
      · rw [nofld_of n _ _ _ _ e1] at w; cases w
      · exact n.2
  cases hx : lstOf x h3 with
  | none => rw [hx] at z3; exact z3.elim
  | some vs =>
    rw [hx] at z3
    obtain ⟨a1, ys1, rfl, h3, v1⟩ := lst_of s3.hr r3 hx
    exact ⟨a1, ys1, rfl, SqL.of h3, fun r hr => new_ct ((s1.tr s2 ia ib).tr s3 (fun e => e) ic) (.lst (cut_of v1 i j)) hr z3⟩
theorem mpf_list (O : Ops G X) (ex : x = "list") (hg : Gl X x) (hm : X.mg x = none) (oka : okE a = true) (ha : PE X a (rd G E W q (den T call ea))) : PE X (.Call (.Name x p) [a] [] pos) (rdF G E W q (denF T call (.list ea))) := by
  subst ex
  have hc := call_list_of (X := X)
  rw [O.K] at hc
  have hA : PA X [a] (tCons (rd G E W q (den T call ea)) tNil) := pa_cons ha pa_nil (star_of oka [] X.env)
  refine (pe_callTy hc hg hm PyProof.Rows.boot_list hA (by decide) (by decide) (star_of oka [] X.env) rfl).imp fun σ H Q ⟨L, lam, σm, h, p, z⟩ => ?_
  rw [denF] at z
  dsimp only at z
  refine rd_seq p z fun x h1 L1 H1 u e1 s1 r1 z1 => ?_
  cases hx : seqOf x h1 with
  | none => rw [hx] at z1; exact z1.elim
  | some vs =>
    rw [hx] at z1
    obtain ⟨a1, ys1, rfl, h3, v1⟩ := seq_of s1.hr r1 hx
    exact ⟨a1, ys1, rfl, h3, fun r hr => new_ct s1 (.lst v1) hr z1⟩
/-! .. as values -/
theorem mp_fz {f : Fx} (h : PE X a (rdF G E W q (denF T call f))) : PE X a (rd G E W q (den T call (.fz f))) :=
  h.imp fun σ H Q ⟨L, lam, σm, h, p, z⟩ => by
    rw [den] at z
    dsimp only at z
    refine ⟨L, lam, σm, h, p, Post.imp (Post.bind z) (fun c h1 z1 L1 H1 r o s1 e1 e0 nh f rc => ?_) fun _ _ z => z⟩
    have s2 := adoptF s1 e1 e0 nh f
    have x := ext_addF (o := o) f (b := h1.length)
    cases rc with
    | lst rv => exact Evs.of z1 s2 (fun e => e) (.lst addF_at (rv.mono x))
    | dK hl rv => exact Evs.of z1 s2 (fun e => e) (.dct (.inl addF_at) hl (rv.mono x))
    | dT hl rv => exact z1.elim
theorem mp_cl {f : Fx} (h : PE X a (rdF G E W q (denF T call f))) : PE X a (rd G E W q (den T call (.cl f))) :=
  h.imp fun σ H Q ⟨L, lam, σm, h, p, z⟩ => by
    rw [den] at z
    dsimp only at z
    refine ⟨L, lam, σm, h, p, Post.imp (Post.bind z) (fun c h1 z1 L1 H1 r o s1 e1 e0 nh f rc => ?_) fun _ _ z => z⟩
    exact z1 _ H1 _ (adoptC s1 e1 e0 nh f rc) (.ref (by simp) (by simp [Lay.addC]))
end
end MP
set_option Elab.async false
set_option linter.all false
set_option autoImplicit false
set_option maxRecDepth 100000
set_option maxHeartbeats 4000000
/-! MP, part o: what is walked; targets; list comprehensions. -/
namespace MP
open PySem PySem.Spec L2
/-- a walk of the values v yields the items xs -/
structure ItOk (G : Gb) (k : Kp) (xs : List MV) (w : Option Nat) (J : It) : Prop where
  stop : ∀ L (h : MH) H, k.at G L h H → HR G L h H → still w xs h = true → J.stop xs.length H
  turn : ∀ (i : Nat) y L (h : MH) H, xs[i]? = some y → k.at G L h H → HR G L h H → still w xs h = true → J.go i H ∧ ∀ x H', J.yld i H x H' → ∃ L', Step G true L h H L' h H' ∧ VR G L' h.length y x
structure It1 (G : Gb) (v : MV) (u : V) (xs : List MV) (w : Option Nat) (J : It) : Prop where
  stop : ∀ L (h : MH) H, VR G L h.length v u → HR G L h H → still w xs h = true → J.stop xs.length H
  turn : ∀ (i : Nat) y L (h : MH) H, xs[i]? = some y → VR G L h.length v u → HR G L h H → still w xs h = true → J.go i H ∧ ∀ x H', J.yld i H x H' → ∃ L', Step G true L h H L' h H' ∧ VR G L' h.length y x
theorem It1.ok {G : Gb} {v : MV} {u : V} {xs : List MV} {w : Option Nat} {J : It} (t : It1 G v u xs w J) : ItOk G ⟨[v], [u], []⟩ xs w J :=
  ⟨fun L h H k => by cases k.1 with | cons k _ => exact t.stop L h H k, fun i y L h H e k => by cases k.1 with | cons k _ => exact t.turn i y L h H e k⟩
def rdI (G : Gb) (E : Ent) (W : WX) (q : Bool) (m : ML → MH → Res (List MV × Option Nat)) : TI := fun σ H R => ∃ L lam σm h, Pt G E L lam σm h σ H ∧
  (m σm h).Post (fun iw h' => ∀ L' H' J k, Step G q L h H L' h' H' → still iw.2 iw.1 h' = true → Kp.at k G L' h' H' → ItOk G k iw.1 iw.2 J → R J H') (Rai G L h H W σ)
def rdG (G : Gb) (E : Ent) (x : Tg) : TG := fun v σ H Q => ∃ L lam σm h mv σm', Pt G E L lam σm h σ H ∧ VR G L h.length mv v ∧ asg x mv σm = some σm' ∧ ∀ σ', σ'.length = σ.length → wipe σ' x.own = wipe σ x.own → Pt G E L lam σm' h σ' H → Q σ' H
section
variable {G : Gb} {E : Ent} {L : Lay} {lam : Nat → Option Addr} {σm : ML} {h : MH} {σ : L2.St} {H : Hp}
/-- a name gets a value -/
theorem Pt.setV (p : Pt G E L lam σm h σ H) {i : Nat} {v : MV} {x : V} (r : VR G L h.length v x) : Pt G E L lam (σm.set i (.val v)) h (σ.set i (some x)) H := by
  have old : ∀ {k : Nat} {c : Ct}, (σm.set i (.val v))[k]? = some (.own c) → k ≠ i ∧ σm[k]? = some (.own c) := fun {k c} e => by
    by_cases hk : i = k
    · subst hk
      by_cases hl : i < σm.length
      · rw [List.getElem?_set_self hl] at e; cases e
      · rw [List.getElem?_eq_none (by simpa using hl)] at e; cases e
    · rw [List.getElem?_set_ne hk] at e; exact ⟨fun z => hk z.symm, e⟩
  refine ⟨p.stp, ⟨by simp [p.sr.len], fun k w o e1 e2 => ?_, fun k l c d a e1 e2 e3 e4 => p.sr.inj k l c d a (old e1).2 (old e2).2 e3 e4⟩, fun k c a e1 e2 => p.new k c a (old e1).2 e2, p.pin⟩
  by_cases hk : i = k
  · subst hk
    have hl : i < σm.length := by simpa using (List.getElem?_eq_some_iff.mp e1).1
    rw [List.getElem?_set_self hl] at e1
    cases e1
    rw [List.getElem?_set_self (by rw [← p.sr.len]; exact hl)] at e2
    cases e2
    exact ⟨x, rfl, r⟩
  · rw [List.getElem?_set_ne hk] at e1 e2
    exact p.sr.slot k w o e1 e2
/-- a name is forgotten -/
theorem Pt.setU (p : Pt G E L lam σm h σ H) {i : Nat} {o : Option V} : Pt G E L lam (σm.set i .un) h (σ.set i o) H := by
  have old : ∀ {k : Nat} {c : Ct}, (σm.set i .un)[k]? = some (.own c) → k ≠ i ∧ σm[k]? = some (.own c) := fun {k c} e => by
    by_cases hk : i = k
    · subst hk
      by_cases hl : i < σm.length
      · rw [List.getElem?_set_self hl] at e; cases e
      · rw [List.getElem?_eq_none (by simpa using hl)] at e; cases e
    · rw [List.getElem?_set_ne hk] at e; exact ⟨fun z => hk z.symm, e⟩
  refine ⟨p.stp, ⟨by simp [p.sr.len], fun k w o e1 e2 => ?_, fun k l c d a e1 e2 e3 e4 => p.sr.inj k l c d a (old e1).2 (old e2).2 e3 e4⟩, fun k c a e1 e2 => p.new k c a (old e1).2 e2, p.pin⟩
  by_cases hk : i = k
  · subst hk
    have hl : i < σm.length := by simpa using (List.getElem?_eq_some_iff.mp e1).1
    rw [List.getElem?_set_self hl] at e1
    cases e1
    trivial
  · rw [List.getElem?_set_ne hk] at e1 e2
    exact p.sr.slot k w o e1 e2
theorem Pt.wipe (p : Pt G E L lam σm h σ H) : ∀ vs : List Nat, Pt G E L lam (wipeM σm vs) h (L2.wipe σ vs) H
  | [] => p
  | v :: vs => by unfold wipeM L2.wipe; exact (Pt.wipe p vs).setU
end
theorem wipe_set {σ : L2.St} {i : Nat} {o : Option V} : ∀ {vs : List Nat}, i ∈ vs → L2.wipe (σ.set i o) vs = L2.wipe σ vs
  | v :: vs, hi => by
    unfold L2.wipe
    by_cases e : i ∈ vs
    · rw [wipe_set e]
    · have e2 : i = v := by
        rcases List.mem_cons.mp hi with z | z
        · exact z
        · exact absurd z e
      subst e2
      have : ∀ {vs : List Nat}, i ∉ vs → L2.wipe (σ.set i o) vs = (L2.wipe σ vs).set i o := by
        intro vs
        induction vs with
        | nil => intro _; rfl
        | cons w vs ih =>
          intro hn
          unfold L2.wipe
          rw [ih (fun z => hn (List.mem_cons_of_mem _ z)), List.set_comm]
          exact fun z => hn (z ▸ List.mem_cons_self)
      rw [this e, List.set_set]
section
variable {T : Tb} {call : Nat → List MV → MH → Res MV} {G : Gb} {E : Ent} {W : WX} {X : Cx} {q qa qb qc : Bool} {pos p2 p : Pos} {a b c : Expr} {ea eb ec : Ex} {es : List Expr} {xs : Exs} {x : Str}
/-! ### targets -/
theorem mpg_var (hN : X.N.Nodup) {i : Nat} (hi : X.N[i]? = some x) (hx : Loc X.env.scope x) (hf : X.fn x = true ∨ X.env.scope.names.lookup x = some .local) : PG X (.Name x pos) (rdG G E (.var i)) := by
  refine ⟨fun pins s σ H v u Q I r z => (pg_name hN hi hx hf).run pins s σ H v u Q I r ?_⟩
  obtain ⟨L, lam, σm, h, mv, σm', p, rv, e, k⟩ := z
  cases e
  exact k _ (by simp) (wipe_set (by simp [Tg.own])) (p.setV rv)
/-- the names of a tuple target -/
def namesOk (X : Cx) : List Nat → List Expr → Bool
  | [], [] => true
  | i :: is, .Name x _ :: es => decide (X.N[i]? = some x) && (decide (X.env.scope.names.lookup x = some .local) && namesOk X is es)
  | _, _ => false
/-- .. as a reading -/
def gNames : List Nat → TGs
  | [] => gNil
  | i :: is => gCons (gName i) (gNames is)
theorem pgs_names (hN : X.N.Nodup) : ∀ {is : List Nat} {es : List Expr}, namesOk X is es = true → PGs X es (gNames is) ∧ (assignEach es X.env).length = es.length ∧ (assignEach es X.env).findIdx? (·.1) = none ∧ es.length = is.length
  | [], [], _ => ⟨pgs_nil, rfl, rfl, rfl⟩
  | i :: is, .Name x p :: es, e => by
    unfold namesOk at e
    simp only [Bool.and_eq_true, decide_eq_true_eq] at e
    obtain ⟨e1, e2, e3⟩ := e
    obtain ⟨h1, h2, h3, h4⟩ := pgs_names hN e3
    refine ⟨pgs_cons (pg_name hN e1 (.inl e2) (.inr e2)) h1 rfl, ?_, ?_, by simp [h4]⟩
    · show (_ :: assignEach es X.env).length = _
      simp [h2]
    · show List.findIdx? (·.1) ((false, _) :: assignEach es X.env) = none
      rw [List.findIdx?_cons, h3]; rfl
  | [], _ :: _, e => by cases e
  | _ :: _, [], e => by cases e
theorem gNames_of : ∀ {is : List Nat} {vs : List MV} {us : List V} {L : Lay} {lam : Nat → Option Addr} {σm σm' : ML} {h : MH} {σ : L2.St} {H : Hp} {Q : L2.St → Hp → Prop}, Pt G E L lam σm h σ H → VRs G L h.length vs us → setAll σm is vs = some σm' →
    (∀ σ', σ'.length = σ.length → (∀ ks : List Nat, (∀ i ∈ is, i ∈ ks) → L2.wipe σ' ks = L2.wipe σ ks) → Pt G E L lam σm' h σ' H → Q σ' H) → gNames is us σ H Q
  | [], [], _, L, lam, σm, σm', h, σ, H, Q, p, .nil, e, k => by
    cases e
    exact ⟨rfl, k σ rfl (fun _ _ => rfl) p⟩
  | i :: is, v :: vs, u :: us, L, lam, σm, σm', h, σ, H, Q, p, .cons r t, e, k => by
    refine ⟨u, us, rfl, ?_⟩
    refine gNames_of (p.setV r) t e fun σ' hl hw p' => k σ' (by simpa using hl) (fun ks hk => ?_) p'
    rw [hw ks fun j hj => hk j (List.mem_cons_of_mem _ hj), wipe_set (hk i List.mem_cons_self)]
  | [], _ :: _, _, _, _, _, _, _, _, _, _, _, _, e, _ => by cases e
  | _ :: _, [], _, _, _, _, _, _, _, _, _, _, _, e, _ => by cases e
theorem mpg_tup (O : Ops G X) (cm : X.calm = true) (hN : X.N.Nodup) {is : List Nat} {n : Nat} (hs : namesOk X is es = true) : PG X (.Tuple es n pos) (rdG G E (.tup is)) := by
  obtain ⟨h1, h2, h3, h4⟩ := pgs_names hN hs
  refine ⟨fun pins s σ H v u Q I r z => (pg_tup (n := es.length) cm h1 h2 h3).run pins s σ H v u Q I r ?_⟩
  obtain ⟨L, lam, σm, h, mv, σm', p, rv, e, k⟩ := z
  cases mv with
  | tup vs =>
    cases rv with
    | tup t rv =>
      have hl : ∀ {is : List Nat} {vs : List MV} {σm σm' : ML}, setAll σm is vs = some σm' → is.length = vs.length := by
        intro is
        induction is with
        | nil => intro vs σm σm' e; cases vs with
          | nil => rfl
          | cons _ _ => cases e
        | cons i is ih => intro vs σm σm' e; cases vs with
          | nil => cases e
          | cons v vs => simp [ih (show setAll (σm.set i (.val v)) is vs = some σm' from e)]
      rw [O.K]
      exact ⟨_, _, rfl, t.sq p.hr, by rw [← rv.length, ← hl e, h4], gNames_of p rv e fun σ' hl hw p' => k σ' hl (hw _ fun i hi => hi) p'⟩
  | _ => cases e
end
end MP
set_option Elab.async false
set_option linter.all false
set_option autoImplicit false
set_option maxRecDepth 100000
set_option maxHeartbeats 4000000
/-! MP, part p: iterators; list comprehensions. -/
namespace L2
open PySem PySem.Spec
theorem PI.imp {X : Cx} {tg e : Expr} {t t' : TI} (p : PI X tg e t) (h : ∀ σ H Q, t' σ H Q → t σ H Q) : PI X tg e t' := ⟨fun pins s σ H Q I q => p.run pins s σ H Q I (h σ H Q q)⟩
end L2
namespace MP
open PySem PySem.Spec L2
section
variable {G : Gb}
theorem it_tup {a : Addr} {xs : List MV} : It1 G (.tup xs) (.ref a) xs none (Itt G.K a) := by
  refine ⟨fun L h H k r _ => ?_, fun i v L h H e k r _ => ?_⟩
  · cases k with
    | tup t rv => exact ⟨_, t.sq r, Nat.le_of_eq rv.length.symm⟩
  · cases k with
    | tup t rv =>
      obtain ⟨u, e1, e2⟩ := rv.get e
      exact ⟨⟨_, u, t.sq r, e1⟩, fun y H' yy => by
        obtain ⟨rfl, yy⟩ := yy
        have e3 := yy _ (t.sq r)
        rw [e1] at e3; cases e3
        exact ⟨L, .refl r, e2⟩⟩
theorem it_lst {a : Addr} {xs : List MV} : It1 G (.lst xs) (.ref a) xs none (Itl G.K a) := by
  refine ⟨fun L h H k r _ => ?_, fun i v L h H e k r _ => ?_⟩
  · cases k with
    | lst t rv => exact ⟨_, SqL.of (r.fz _ _ t), Nat.le_of_eq rv.length.symm⟩
  · cases k with
    | lst t rv =>
      rename_i ys
      obtain ⟨u, e1, e2⟩ := rv.get e
      have sq : SqL G.K H a ys := SqL.of (r.fz _ _ t)
      exact ⟨⟨_, u, sq, e1⟩, fun y H' yy => by
        obtain ⟨rfl, yy⟩ := yy
        have e3 := yy _ sq
        rw [e1] at e3; cases e3
        exact ⟨L, .refl r, e2⟩⟩
theorem it_kl {a : Addr} {xs : List MV} : It1 G (.kl xs) (.ref a) xs none (Itl G.K a) := by
  refine ⟨fun L h H k r _ => ?_, fun i v L h H e k r _ => ?_⟩
  · cases k with
    | kl t rv => exact ⟨_, t.sq r, Nat.le_of_eq rv.length.symm⟩
  · cases k with
    | kl t rv =>
      rename_i ys
      obtain ⟨u, e1, e2⟩ := rv.get e
      have sq : SqL G.K H a ys := t.sq r
      exact ⟨⟨_, u, sq, e1⟩, fun y H' yy => by
        obtain ⟨rfl, yy⟩ := yy
        have e3 := yy _ sq
        rw [e1] at e3; cases e3
        exact ⟨L, .refl r, e2⟩⟩
theorem it_cell {a : Addr} {n : Nat} {xs : List MV} : It1 G (.ref n) (.ref a) xs (some n) (Itl G.K a) := by
  have look : ∀ {L : Lay} {h : MH} {H : Hp}, VR G L h.length (.ref n) (.ref a) → HR G L h H → still (some n) xs h = true → ∃ ys, H a = some (.lst ys) ∧ VRs G L h.length xs ys := fun {L h H} k r s => by
    have e : h[n]? = some (.ct (.lst xs)) := by simpa [still] using s
    obtain ⟨a', o, e1, e2, e3⟩ := r.cell n _ e
    cases k with
    | ref hn al =>
      rw [al] at e1; cases e1
      cases e3 with
      | ct e3 => cases e3 with
        | lst rv => exact ⟨_, e2, rv⟩
  refine ⟨fun L h H x r s => ?_, fun i v L h H e x r s => ?_⟩
  · obtain ⟨ys, e1, rv⟩ := look x r s
    exact ⟨ys, SqL.of e1, Nat.le_of_eq rv.length.symm⟩
  · obtain ⟨ys, e1, rv⟩ := look x r s
    obtain ⟨u, e2, e3⟩ := rv.get e
    exact ⟨⟨ys, u, SqL.of e1, e2⟩, fun y H' yy => by
      obtain ⟨rfl, yy⟩ := yy
      have e4 := yy ys (SqL.of e1)
      rw [e2] at e4; cases e4
      exact ⟨L, .refl r, e3⟩⟩
theorem range_get {lo : Int} {n i : Nat} {v : MV} (e : (rangeL lo n)[i]? = some v) : i < n ∧ v = .int (lo + i) := by
  unfold rangeL at e
  rw [List.getElem?_map] at e
  have hi : i < n := by
    cases q : (List.range n)[i]? with
    | none => rw [q] at e; cases e
    | some j => have := (List.getElem?_eq_some_iff.mp q).1; simpa using this
  rw [List.getElem?_range hi] at e
  exact ⟨hi, by simpa using e.symm⟩
theorem it_range {lo : Int} {n : Nat} : It1 G .non .non (rangeL lo n) none (Itr lo n) := by
  refine ⟨fun L h H x r _ => ?_, fun i v L h H e x r _ => ?_⟩
  · show n ≤ (rangeL lo n).length
    simp [rangeL]
  · obtain ⟨hi, rfl⟩ := range_get e
    exact ⟨hi, fun y H' yy => by obtain ⟨rfl, rfl⟩ := yy; exact ⟨L, .refl r, .int _⟩⟩
end
section
variable {T : Tb} {call : Nat → List MV → MH → Res MV} {G : Gb} {E : Ent} {W : WX} {X : Cx} {q qa qb qc : Bool} {pos p2 p : Pos} {a b c tg : Expr} {ea eb ec : Ex} {es : List Expr} {xs : Exs} {x : Str}
def rOver (K : PySem.W.Frag) : V → Hp → (It → Hp → Prop) → Prop := fun x H1 R => ∃ a, x = .ref a ∧ (((∃ xs, SqL K H1 a xs) ∧ R (Itl K a) H1) ∨ ((∃ xs, SqT K H1 a xs) ∧ R (Itt K a) H1))
/-- a list or a tuple -/
theorem pi_any {l : Expr} {tl : TE} (hl : PE X l tl) : PI X tg l (fun σ H R => tl σ H fun x H1 => rOver X.K x H1 R) := by
  refine ⟨fun pins s σ H R I h => ?_⟩
  refine thn (hl.run pins s σ H _ I h) fun v s1 ⟨x, H1, I1, r1, q1⟩ => ?_
  obtain ⟨a, e, q1⟩ := q1
  subst e
  cases r1
  rcases q1 with ⟨⟨xs, hq⟩, q⟩ | ⟨⟨xs, hq⟩, q⟩
  · obtain ⟨its, rv, p, hz⟩ := I1.list hq
    refine wpAny_pyIter_list p.isList ?_
    refine ⟨s1.heap.objs.size, [s1.heap.objs.size], _, _, H1, rfl, I1.kept (t' := s1.toks) fun b o e => Heap.get?_push_of_some _ e, turn_list a _, ⟨_, Heap.get?_push_size _ rfl, rfl, rfl⟩, fun b hb => ?_, q⟩
    have e : b = s1.heap.objs.size := by simpa using hb
    subst e
    exact I1.fpOk (Nat.le_refl _) (I1.hok.fresh (Nat.le_refl _))
  · obtain ⟨its, rv, p, hz⟩ := I1.tuple hq
    refine wpAny_pyIter_tuple (show s1.heap.IsTuple a its.toArray from p) ?_
    refine ⟨s1.heap.objs.size, [s1.heap.objs.size], _, _, H1, rfl, I1.kept (t' := s1.toks) fun b o e => Heap.get?_push_of_some _ e, turn_tuple a _, ⟨_, Heap.get?_push_size _ rfl, rfl, rfl⟩, fun b hb => ?_, q⟩
    have e : b = s1.heap.objs.size := by simpa using hb
    subst e
    exact I1.fpOk (Nat.le_refl _) (I1.hok.fresh (Nat.le_refl _))
theorem mpi_over (O : Ops G X) (ha : PE X a (rd G E W q (den T call ea))) : PI X tg a (rdI G E W q (denI T call (.over ea))) :=
  (pi_any ha).imp fun σ H R ⟨L, lam, σm, h, p, z⟩ => by
    rw [denI] at z
    dsimp only at z
    refine rd_seq p z fun x h1 L1 H1 u e1 s1 r1 z1 => ?_
    rw [O.K]
    cases ho : overOf x h1 with
    | none => rw [ho] at z1; exact z1.elim
    | some iw =>
      rw [ho] at z1
      cases x with
      | w c p => cases ho
      | x c => cases ho
      | v x =>
        cases x with
        | tup vs =>
          cases ho
          cases r1 with
          | tup t rv => exact ⟨_, rfl, .inr ⟨⟨_, t.sq s1.hr⟩, z1 L1 H1 _ _ s1 rfl (Kp.of (.cons (.tup t rv) .nil)) it_tup.ok⟩⟩
        | lst vs =>
          cases ho
          cases r1 with
          | lst t rv => exact ⟨_, rfl, .inl ⟨⟨_, SqL.of (s1.hr.fz _ _ t)⟩, z1 L1 H1 _ _ s1 rfl (Kp.of (.cons (.lst t rv) .nil)) it_lst.ok⟩⟩
        | kl vs =>
          cases ho
          cases r1 with
          | kl t rv => exact ⟨_, rfl, .inl ⟨⟨_, t.sq s1.hr⟩, z1 L1 H1 _ _ s1 rfl (Kp.of (.cons (.kl t rv) .nil)) it_kl.ok⟩⟩
        | ref n =>
          cases r1 with
          | ref hn al =>
            unfold overOf at ho
            dsimp only at ho
            cases hc : h1[n]? with
            | none => rw [hc] at ho; cases ho
            | some cl =>
              rw [hc] at ho
              cases cl with
              | ins c fs => cases ho
              | lk c => cases ho
              | ct c =>
                cases c with
                | lst vs =>
                  cases ho
                  obtain ⟨a', o, e2, e3, e4⟩ := s1.hr.cell n _ hc
                  rw [al] at e2; cases e2
                  cases e4 with
                  | ct e4 => cases e4 with
                    | lst rv => exact ⟨_, rfl, .inl ⟨⟨_, SqL.of e3⟩, z1 L1 H1 _ _ s1 (by simp [still, hc]) (Kp.of (.cons (.ref hn al) .nil)) it_cell.ok⟩⟩
                | _ => cases ho
        | _ => cases ho
theorem mpi_range1 (ex : x = "range") (hg : Gl X x) (hm : X.mg x = none) (oka : okE a = true) (ha : PE X a (rd G E W q (den T call ea))) : PI X tg (.Call (.Name x p) [a] [] pos) (rdI G E W q (denI T call (.range1 ea))) := by
  subst ex
  refine (pi_range1 hg hm (pa_cons ha pa_nil (star_of oka [] X.env)) (star_of oka [] X.env)).imp fun σ H R ⟨L, lam, σm, h, p, z⟩ => ?_
  rw [denI] at z
  dsimp only at z
  refine rd_vb p z fun x h1 L1 H1 u e1 s1 r1 z1 => ?_
  cases x with
  | int n =>
    cases r1
    obtain ⟨c, z1⟩ := post_if z1
    exact ⟨n, rfl, c.1, c.2, z1 L1 H1 _ _ s1 rfl (Kp.of (.cons .non .nil)) it_range.ok⟩
  | _ => exact z1.elim
theorem mpi_range2 (ex : x = "range") (hg : Gl X x) (hm : X.mg x = none) (oka : okE a = true) (okb : okE b = true) (ha : PE X a (rd G E W qa (den T call ea))) (hb : PE X b (rd G E W qb (den T call eb))) (ia : q = true → qa = true) (ib : q = true → qb = true) :
    PI X tg (.Call (.Name x p) [a, b] [] pos) (rdI G E W q (denI T call (.range2 ea eb))) := by
  subst ex
  refine (pi_range2 hg hm (pa_cons ha (pa_cons hb pa_nil (star_of okb [] X.env)) (star_of oka _ X.env)) (by rw [star_of oka, star_of okb]; rfl) (star_of okb _ X.env)).imp fun σ H R ⟨L, lam, σm, h, p, z⟩ => ?_
  rw [denI] at z
  dsimp only at z
  refine rd_vb (qa := qa) p z fun x h1 L1 H1 u e1 s1 r1 z1 => ?_
  refine rd_vb (qa := qb) (p.step s1) z1 fun y h2 L2 H2 v e2 s2 r2 z2 => ?_
  cases x with
  | int i =>
    cases y with
    | int j =>
      cases r1; cases r2
      obtain ⟨c, z2⟩ := post_if z2
      exact ⟨i, j, rfl, ⟨c.1.1, c.1.2, c.2.1, c.2.2⟩, z2 L2 H2 _ _ (s1.tr s2 ia ib) rfl (Kp.of (.cons .non .nil)) it_range.ok⟩
    | _ => exact z2.elim
  | _ => cases y <;> exact z2.elim
theorem it_str {z : Str} {xs : List MV} (e : xs = z.cps.toList.map fun c => .str ⟨#[c]⟩) : It1 G .non .non xs none (Its z) := by
  subst e
  refine ⟨fun L h H x r _ => ?_, fun i v L h H e x r _ => ?_⟩
  · show z.cps.size ≤ _
    simp
  · rw [List.getElem?_map] at e
    cases ec : z.cps.toList[i]? with
    | none => rw [ec] at e; cases e
    | some c =>
      rw [ec] at e
      cases e
      have ez : z.cps[i]? = some c := by simpa using ec
      have hi : i < z.cps.size := (Array.getElem?_eq_some_iff.mp ez).1
      refine ⟨hi, fun y H' yy => ?_⟩
      obtain ⟨rfl, c', e1, rfl⟩ := yy
      rw [ez] at e1; cases e1
      exact ⟨L, .refl r, .str _⟩
theorem mpi_text (ha : PE X a (rd G E W q (den T call ea))) : PI X tg a (rdI G E W q (denI T call (.text ea))) :=
  (pi_str ha).imp fun σ H R ⟨L, lam, σm, h, p, z⟩ => by
    rw [denI] at z
    dsimp only at z
    refine rd_vb p z fun x h1 L1 H1 u e1 s1 r1 z1 => ?_
    cases x with
    | str s => cases r1; exact ⟨s, rfl, z1 L1 H1 _ _ s1 rfl (Kp.of (.cons .non .nil)) (it_str rfl).ok⟩
    | _ => exact z1.elim
theorem it_zip {a b : Addr} {xs ys : List MV} : ItOk G ⟨[.tup xs, .tup ys], [.ref a, .ref b], []⟩ ((xs.zip ys).map fun p => .tup [p.1, p.2]) none (RZ.ItzT G.K a b) := by
  refine ⟨fun L h H k r _ => ?_, fun i v L h H e k r _ => ?_⟩
  · cases k.1 with
    | cons k1 k => cases k with
      | cons k2 k => cases k1 with
        | tup t1 v1 => cases k2 with
          | tup t2 v2 =>
            refine ⟨_, _, t1.sq r, t2.sq r, ?_⟩
            rw [← v1.length, ← v2.length, List.length_map, List.length_zip]
            omega
  · cases k.1 with
    | cons k1 k => cases k with
      | cons k2 k => cases k1 with
        | tup t1 v1 => cases k2 with
          | tup t2 v2 =>
            rename_i us _ ws
            rw [List.getElem?_map] at e
            cases ez : (xs.zip ys)[i]? with
            | none => rw [ez] at e; cases e
            | some pr =>
              rw [ez] at e
              cases e
              obtain ⟨m, n⟩ := pr
              obtain ⟨e1, e2⟩ := List.getElem?_zip_eq_some.mp ez
              obtain ⟨u, f1, g1⟩ := v1.get e1
              obtain ⟨w, f2, g2⟩ := v2.get e2
              refine ⟨⟨_, _, u, w, t1.sq r, t2.sq r, f1, f2⟩, fun y H' yy => ?_⟩
              obtain ⟨Tt, x, y', rfl, hT, rfl, hx, hy⟩ := yy
              have e3 := hx _ (t1.sq r)
              rw [f1] at e3; cases e3
              have e4 := hy _ (t2.sq r)
              rw [f2] at e4; cases e4
              have s := step_fz (G := G) true r hT (o := .tup [u, w])
              exact ⟨_, s, .tup (.inl addF_at) (.cons (s.vr g1) (.cons (s.vr g2) .nil))⟩
theorem mpi_zip (O : Ops G X) {elts : List Expr} {kk : Nat} {tpos : Pos} (ex : x = "zip") (hg : Gl X x) (hm : X.mg x = none) (oka : okE a = true) (okb : okE b = true) (ha : PE X a (rd G E W qa (den T call ea))) (hb : PE X b (rd G E W qb (den T call eb))) (ia : q = true → qa = true) (ib : q = true → qb = true) :
    PI X (.Tuple elts kk tpos) (.Call (.Name x p) [a, b] [] pos) (rdI G E W q (denI T call (.zip ea eb))) := by
  subst ex
  have hz := RZ.pi_zipA (pos := pos) (p := p) (elts := elts) (kk := kk) (tpos := tpos) hg hm (pa_cons ha (pa_cons hb pa_nil (star_of okb [] X.env)) (star_of oka _ X.env)) (star_of oka _ X.env) (anys_of (es := [b]) (by simp [okb]) pos)
  refine hz.imp fun σ H R ⟨L, lam, σm, h, p, z⟩ => ?_
  rw [denI] at z
  dsimp only at z
  refine rd_vb (qa := qa) p z fun x h1 L1 H1 u e1 s1 r1 z1 => ?_
  refine rd_vb (qa := qb) (p.step s1) z1 fun y h2 L2 H2 v e2 s2 r2 z2 => ?_
  rw [O.K]
  cases x with
  | tup vs =>
    cases y with
    | tup ws =>
      cases r1 with
      | tup t1 v1 =>
        cases r2 with
        | tup t2 v2 =>
          have t1' := t1.mono s2.ext
          exact ⟨_, _, _, _, rfl, .inr ⟨t1'.sq s2.hr, t2.sq s2.hr, z2 L2 H2 _ _ (s1.tr s2 ia ib) rfl (Kp.of (.cons (.tup t1' (v1.mono s2.ext)) (.cons (.tup t2 v2) .nil))) it_zip⟩⟩
    | _ => exact z2.elim
  | _ => cases y <;> exact z2.elim
/-! ### comprehensions -/
theorem wipe_wipe {σ : L2.St} {ks : List Nat} : ∀ {vs : List Nat}, (∀ i ∈ vs, i ∈ ks) → L2.wipe (L2.wipe σ vs) ks = L2.wipe σ ks
  | [], _ => rfl
  | v :: vs, hs => by
    conv => lhs; arg 1; unfold L2.wipe
    rw [wipe_set (hs v List.mem_cons_self), wipe_wipe fun i hi => hs i (List.mem_cons_of_mem _ hi)]
theorem own_put {L L' : Lay} {h h' : MH} {H H' : Hp} {r : Addr} {o : HO} (s : Step G q L h H L' h' H') (e0 : H r = none) (e1 : (H' r).isSome = true) (nh : ¬ Held L' r) (f : L'.fz r = none) : Step G q L h H L' h' (upd H' r o) := by
  have ne : ∀ {a : Addr}, Held L' a → a ≠ r := fun z w => nh (w ▸ z)
  have ne0 : ∀ {a : Addr}, (H a).isSome = true → a ≠ r := fun z w => by rw [w, e0] at z; cases z
  refine ⟨s.ext, ⟨fun a u z => ?_, fun n a z => ?_, fun n g a z => ?_, s.hr.aa, s.hr.oo, s.hr.ao, s.hr.af, s.hr.of, fun n c z => ?_⟩, fun a u z w => ?_, fun a z => ?_, s.new1, s.new2, fun hq => ⟨fun a u z => ?_, (s.mon hq).2⟩, fun n c e => ⟨(s.lk n c e).1, fun a al => (upd_ne (ne (.inl ⟨n, s.ext.al n a (List.getElem?_eq_some_iff.mp e).1 al⟩))).trans ((s.lk n c e).2 a al)⟩⟩
  · rw [upd_ne (by rintro rfl; rw [f] at z; cases z)]; exact s.hr.fz a u z
  · rw [upd_ne (ne (.inl ⟨n, z⟩))]; exact s.hr.alive n a z
  · rw [upd_ne (ne (.inr ⟨n, g, z⟩))]; exact s.hr.olive n g a z
  · obtain ⟨a, u, z1, z2, z3⟩ := s.hr.cell n c z
    refine ⟨a, u, z1, by rw [upd_ne (ne (.inl ⟨n, z1⟩))]; exact z2, z3.keep .refl (fun _ _ z => z) fun g a u w z => ?_⟩
    rw [upd_ne (ne (.inr ⟨n, g, w⟩))]; exact z
  · rw [upd_ne (ne0 (by rw [z]; rfl))]; exact s.frm a u z w
  · by_cases ha : a = r
    · subst ha; rw [upd_same]; rfl
    · rw [upd_ne ha]; exact s.dom a z
  · rw [upd_ne (ne0 (by rw [z]; rfl))]; exact (s.mon hq).1 a u z
def rdC (G : Gb) (E : Ent) (q : Bool) (m : ML → MH → Res Bool) : TT := rdT G E (fun _ _ _ _ => False) q m
theorem mpc_no (X : Cx) : PTs X [] (rdC G E q (denC T call .no)) := by
  refine ⟨fun pins s σ H Q I z => pts_nil.run pins s σ H Q I ?_⟩
  obtain ⟨L, lam, σm, h, p, z⟩ := z
  rw [denC] at z
  exact z L H (.refl p.hr)
theorem mpc_yes {X : Cx} (h : PT X c (rdC G E q fun s h => (den T call ec s h).bool)) : PTs X [c] (rdC G E q (denC T call (.yes ec))) := by
  rw [denC]
  exact pts_one h
theorem lc_body {t : Tg} {cc : Exo} {ee : Ex} {vs : List Nat} (ho : vs = t.own) (ia : q = true → qa = true) (ib : q = true → qb = true) (ic : q = true → qc = true) {L L1 : Lay} {lam : Nat → Option Addr} {σm : ML} {h h1 : MH} {σ : L2.St} {H H1 : Hp} {Q : VK} {Z : Nat → MH → Prop} {iw : List MV × Option Nat} {J : It} {kk : Kp}
    (p : Pt G E L lam σm h σ H) (s1 : Step G qa L h H L1 h1 H1) (st0 : still iw.2 iw.1 h1 = true) (k0 : kk.at G L1 h1 H1) (J0 : ItOk G kk iw.1 iw.2 J)
    (z1 : ((compL (denC T call cc) (fun σ h => (den T call ee σ h).vl) t iw.2 iw.1 (wipeM σm t.own) iw.1 [] h1).bind fun xs h2 => Res.ok (Ct.lst xs) h2).Post
        (fun c h' => ∀ L' H' p o, Step G q L h H L' h' H' → H' p = some o → H p = none → ¬ Held L' p → L'.fz p = none → CtR G L' h'.length c o → Q (.ref p) H') Z) :
    ∀ D, H1 D = none → ∃ Wv : Nat → Nat → Hp → Prop, (∃ m, Wv 0 m (upd H1 D (.lst []))) ∧ ∀ i m H, Wv i m H →
      (J.stop i H ∧ Q (.ref D) H) ∨ (J.go i H ∧ ∃ Nx : Hp → Prop, (∀ H', Nx H' → ∃ m', m' < m ∧ Wv (i + 1) m' H') ∧ ∀ x H', J.yld i H x H' → rdG G E t x (L2.wipe σ vs) H' fun σ2 H2 => L2.wipe σ2 vs = L2.wipe σ vs ∧ rdC G E qb (denC T call cc) σ2 H2 fun b H3 =>
        if b = true then rd G E (fun _ _ _ _ => False) qc (den T call ee) σ2 H3 fun y H4 => ∃ acc, H4 D = some (.lst acc) ∧ acc.length < sizeLine ∧ Nx (upd H4 D (.lst (acc ++ [y]))) else Nx H3) := by
    intro D hD
    rw [ho]
    have hD0 : H D = none := by
      cases e : H D with
      | none => rfl
      | some u => have := s1.dom D (by rw [e]; rfl); rw [hD] at this; cases this
    -- the turns
    refine ⟨fun i m H' => m = iw.1.length - i ∧ i ≤ iw.1.length ∧ ∃ L' h' acc av, Step G q L h H L' h' H' ∧ Step G q L1 h1 H1 L' h' H' ∧ H' D = some (.lst av) ∧ VRs G L' h'.length acc av ∧ ¬ Held L' D ∧ L'.fz D = none ∧ still iw.2 iw.1 h' = true ∧
      ((compL (denC T call cc) (fun σ h => (den T call ee σ h).vl) t iw.2 iw.1 (wipeM σm t.own) (iw.1.drop i) acc h').bind fun xs h2 => .ok (.lst xs) h2).Post
        (fun c h' => ∀ L' H' p o, Step G q L h H L' h' H' → H' p = some o → H p = none → ¬ Held L' p → L'.fz p = none → CtR G L' h'.length c o → Q (.ref p) H') Z, ⟨iw.1.length, by simp, Nat.zero_le _, ?_⟩, ?_⟩
    · have hnh : ¬ Held L1 D := fun w => by have := held_some s1.hr w; rw [hD] at this; cases this
      have hfz : L1.fz D = none := by
        cases e : L1.fz D with
        | none => rfl
        | some u => have := s1.hr.fz D u e; rw [hD] at this; cases this
      exact ⟨L1, h1, [], [], (s1.weak ia).trans (step_new q s1.hr hD), step_new q s1.hr hD, upd_same, .nil, hnh, hfz, st0, by rw [List.drop_zero]; exact z1⟩
    · rintro i m H' ⟨rfl, hi', L', h', acc, av, s', x', hD', rv, hnh, hfz, st, z'⟩
      by_cases hlt : i < iw.1.length
      · refine .inr ?_
        have hv : iw.1[i]? = some iw.1[i] := List.getElem?_eq_getElem hlt
        obtain ⟨go, yld⟩ := J0.turn i _ L' h' H' hv (Kp.step k0 x') s'.hr st
        refine ⟨go, _, fun H'' nx => ⟨iw.1.length - (i + 1), by omega, nx⟩, fun y H2 yy => ?_⟩
        obtain ⟨La, s2, r2⟩ := yld y H2 yy
        rw [List.drop_eq_getElem_cons hlt] at z'
        unfold compL at z'
        have s02 : Step G q L h H La h' H2 := s'.tr s2 (fun e => e) fun _ => rfl
        have hDs : (H2 D).isSome = true := s2.dom D (by rw [hD']; rfl)
        obtain ⟨d1, d2, d3, d4⟩ := own_step s2 hD' (.lst rv) hnh hfz
        cases ha : asg t iw.1[i] (wipeM σm t.own) with
        | none => rw [ha] at z'; exact z'.elim
        | some σ1 =>
          rw [ha] at z'
          refine ⟨La, lam, _, h', _, σ1, (p.step s02).wipe t.own, r2, ha, fun σ2 hl hw p2 => ⟨hw.trans (wipe_wipe (fun _ z => z)), La, lam, σ1, h', p2, ?_⟩⟩
          dsimp only at z'
          cases et : denC T call cc σ1 h' with
          | bad => rw [et] at z'; exact z'.elim
          | exc k h3 => rw [et] at z'; exact z'.elim
          | ok k h3 =>
            rw [et] at z'
            intro L3 H3 s3
            have s03 : Step G q L h H L3 h3 H3 := s02.tr s3 (fun e => e) ib
            obtain ⟨f1, f2, f3, f4⟩ := own_step s3 d1 d2 d3 d4
            cases f2 with
            | lst rv3 =>
              cases k with
              | false =>
                rw [if_neg Bool.false_ne_true]
                have z' : ((if still iw.2 iw.1 h3 = true then compL (denC T call cc) (fun σ h => (den T call ee σ h).vl) t iw.2 iw.1 (wipeM σm t.own) (iw.1.drop (i + 1)) acc h3 else Res.bad).bind fun xs h2 => Res.ok (Ct.lst xs) h2).Post _ Z := z'
                by_cases c : still iw.2 iw.1 h3 = true
                · rw [if_pos c] at z'
                  exact ⟨rfl, hlt, L3, h3, acc, _, s03, (x'.tr s2 (fun e => e) fun _ => rfl).tr s3 (fun e => e) ib, f1, rv3, f3, f4, c, z'⟩
                · rw [if_neg c] at z'; exact z'.elim
              | true =>
                rw [if_pos rfl]
                refine ⟨L3, lam, σ1, h3, p2.step s3, ?_⟩
                dsimp only at z'
                cases ev : den T call ee σ1 h3 with
                | bad => rw [ev] at z'; exact z'.elim
                | exc c h4 => rw [ev] at z'; exact z'.elim
                | ok w h4 =>
                  rw [ev] at z'
                  cases w with
                  | w c p => exact z'.elim
                  | x c => exact z'.elim
                  | v w =>
                    have z' : ((if acc.length < sizeLine ∧ still iw.2 iw.1 h4 = true then compL (denC T call cc) (fun σ h => (den T call ee σ h).vl) t iw.2 iw.1 (wipeM σm t.own) (iw.1.drop (i + 1)) (acc ++ [w]) h4 else Res.bad).bind fun xs h2 => Res.ok (Ct.lst xs) h2).Post _ Z := z'
                    by_cases c : acc.length < sizeLine ∧ still iw.2 iw.1 h4 = true
                    · rw [if_pos c] at z'
                      intro L4 H4 u s4 r4
                      obtain ⟨g1, g2, g3, g4⟩ := own_step s4 f1 (.lst rv3) f3 f4
                      cases g2 with
                      | lst rv4 =>
                        refine ⟨_, g1, by rw [← rv4.length]; exact c.1, rfl, hlt, L4, h4, acc ++ [w], _, own_put (s03.tr s4 (fun e => e) ic) hD0 (by rw [g1]; rfl) g3 g4, own_put (((x'.tr s2 (fun e => e) fun _ => rfl).tr s3 (fun e => e) ib).tr s4 (fun e => e) ic) hD (by rw [g1]; rfl) g3 g4, upd_same, rv4.append (.cons r4 .nil), g3, g4, c.2, z'⟩
                    · rw [if_neg c] at z'; exact z'.elim
      · have e : i = iw.1.length := by omega
        subst e
        refine .inl ⟨J0.stop L' h' H' (Kp.step k0 x') s'.hr st, ?_⟩
        rw [List.drop_length] at z'
        exact z' L' H' D _ s' hD' hD0 hnh hfz (.lst rv)
theorem lc_imp {t : Tg} {it : Ite} {cc : Exo} {ee : Ex} {vs : List Nat} (ho : vs = t.own) (ia : q = true → qa = true) (ib : q = true → qb = true) (ic : q = true → qc = true) {σ : L2.St} {H : Hp} {Q : VK} (z : rdF G E W q (denF T call (.comp t it cc ee)) σ H Q) :
    tLc (rdI G E W qa (denI T call it)) (rdG G E t) (rdC G E qb (denC T call cc)) (rd G E (fun _ _ _ _ => False) qc (den T call ee)) vs σ H Q := by
    obtain ⟨L, lam, σm, h, p, z⟩ := z
    rw [denF] at z
    dsimp only at z
    refine ⟨L, lam, σm, h, p, Post.imp (Post.bind z) (fun iw h1 z1 L1 H1 J kk s1 st0 k0 J0 => ?_) fun _ _ z => z⟩
    exact lc_body ho ia ib ic p s1 st0 k0 J0 z1
theorem mpf_comp (O : Ops G X) (cm : X.calm = true) (hN : X.N.Nodup) {elt iter : Expr} {ifs : List Expr} {scope : Scope} {own : List (Str × Nat)} {t : Tg} {it : Ite} {cc : Exo} {ee : Ex} (hi : PI X tg iter (rdI G E W qa (denI T call it))) (oki : okE iter = true) (ok : BlkOk X.N X.env.scope scope own) (ho : own.map (·.2) = t.own)
    (hg : ∀ (s : Shared) (H : Hp) (C : Addr) (cl : List (Str × Addr)) (fp : List Addr), PG (X.blk s H scope (compEnvC scope cl C X.env) fp) tg (rdG G E t))
    (ht : ∀ (s : Shared) (H : Hp) (C : Addr) (cl : List (Str × Addr)) (fp : List Addr), PTs (X.blk s H scope (compEnvC scope cl C X.env) fp) ifs (rdC G E qb (denC T call cc)))
    (he : ∀ (s : Shared) (H : Hp) (C : Addr) (cl : List (Str × Addr)) (fp : List Addr), PE (X.blk s H scope (compEnvC scope cl C X.env) fp) elt (rd G E (fun _ _ _ _ => False) qc (den T call ee)))
    (ia : q = true → qa = true) (ib : q = true → qb = true) (ic : q = true → qc = true) : PE X (.ListComp elt [⟨tg, iter, ifs, 0⟩] scope pos) (rdF G E W q (denF T call (.comp t it cc ee))) :=
  (pe_lc cm hN hi ok hg ht he (fold_of oki X.env)).imp fun σ H Q z => lc_imp ho ia ib ic z
end
end MP
set_option Elab.async false
set_option linter.all false
set_option autoImplicit false
set_option maxRecDepth 100000
set_option maxHeartbeats 4000000
/-! MP, part q: statements. -/
namespace MP
open PySem PySem.Spec L2
/-- what a statement's result leads to -/
def SO.SPost (r : SO) (G : Gb) (E : Ent) (W : WX) (D : Ends) : Prop := match r with
  | .nx σm h => ∀ L lam σ H, Pt G E L lam σm h σ H → D.nx σ H
  | .rt v h => ∀ L H x, Step G false E.L E.h E.H L h H → (∀ k, E.pn k → Kp.at k G L h H) → VR G L h.length v x → D.rt x H
  | .bk σm h => ∀ L lam σ H, Pt G E L lam σm h σ H → D.bk σ H
  | .ct σm h => ∀ L lam σ H, Pt G E L lam σm h σ H → D.ct σ H
  | .exc c σm h => ∀ L lam σ H, Pt G E L lam σm h σ H → W (G.cv c) none σ H
  | .bad => False
def rdS (G : Gb) (E : Ent) (W : WX) (m : ML → MH → SO) : TS := fun D σ H => ∃ L lam σm h, Pt G E L lam σm h σ H ∧ (m σm h).SPost G E W D
section
variable {G : Gb} {E : Ent} {W : WX} {q : Bool} {D : Ends} {L : Lay} {lam : Nat → Option Addr} {σm : ML} {h : MH} {σ : L2.St} {H : Hp}
theorem post_go {α : Type} {r : Res α} {f : α → MH → SO} (p : Pt G E L lam σm h σ H) (z : (r.go σm f).SPost G E W D) : r.Post (fun a h' => (f a h').SPost G E W D) (Rai G L h H W σ) := by
  cases r with
  | ok a h' => exact z
  | exc c h' => exact fun L' H' s => z L' lam σ H' (p.step s)
  | bad => exact z
/-- an expression, then what follows -/
theorem go_seq {a : EE} {f : EV → MH → SO} {Q : VK} (p : Pt G E L lam σm h σ H) (z : ((a σm h).go σm f).SPost G E W D)
    (k : ∀ x h1 L1 H1 u, a σm h = .ok x h1 → Step G q L h H L1 h1 H1 → ER G E.px L1 h1.length H1 lam x u → (f x h1).SPost G E W D → Q u H1) : rd G E W q a σ H Q := by
  refine ⟨L, lam, σm, h, p, ?_⟩
  have z := post_go p z
  cases ea : a σm h with
  | bad => rw [ea] at z; exact z
  | exc c k => rw [ea] at z; exact z
  | ok x h1 =>
    rw [ea] at z
    exact fun L1 H1 u s1 r1 => k x h1 L1 H1 u ea s1 r1 z
theorem go_vl {a : EE} {f : MV → MH → SO} {Q : VK} (p : Pt G E L lam σm h σ H) (z : ((a σm h).vl.go σm f).SPost G E W D)
    (k : ∀ x h1 L1 H1 u, a σm h = .ok (.v x) h1 → Step G q L h H L1 h1 H1 → VR G L1 h1.length x u → (f x h1).SPost G E W D → Q u H1) : rd G E W q a σ H Q := by
  refine ⟨L, lam, σm, h, p, ?_⟩
  have z := post_go p z
  cases ea : a σm h with
  | bad => rw [ea] at z; exact z
  | exc c k => rw [ea] at z; exact z
  | ok x h1 =>
    rw [ea] at z
    cases x with
    | v x => exact fun L1 H1 u s1 r1 => k x h1 L1 H1 u ea s1 r1 z
    | w c p => exact z.elim
    | x c => exact z.elim
theorem go_F {m : ML → MH → Res Ct} {f : Ct → MH → SO} {Q : VK} (p : Pt G E L lam σm h σ H) (z : ((m σm h).go σm f).SPost G E W D)
    (k : ∀ c h1 L1 H1 r o, Step G q L h H L1 h1 H1 → H1 r = some o → H r = none → ¬ Held L1 r → L1.fz r = none → CtR G L1 h1.length c o → (f c h1).SPost G E W D → Q (.ref r) H1) : rdF G E W q m σ H Q := by
  refine ⟨L, lam, σm, h, p, ?_⟩
  have z := post_go p z
  cases ea : m σm h with
  | bad => rw [ea] at z; exact z
  | exc c k => rw [ea] at z; exact z
  | ok x h1 =>
    rw [ea] at z
    exact fun L1 H1 r o s1 e1 e2 e3 e4 r1 => k x h1 L1 H1 r o s1 e1 e2 e3 e4 r1 z
theorem go_T {m : EE} {f : Bool → MH → SO} {Q : Bool → Hp → Prop} (p : Pt G E L lam σm h σ H) (z : ((m σm h).bool.go σm f).SPost G E W D)
    (k : ∀ b h1 L1 H1, Step G q L h H L1 h1 H1 → (f b h1).SPost G E W D → Q b H1) : rdT G E W q (fun s h => (m s h).bool) σ H Q := by
  refine ⟨L, lam, σm, h, p, ?_⟩
  have z := post_go p z
  dsimp only
  cases ea : (m σm h).bool with
  | bad => rw [ea] at z; exact z
  | exc c k => rw [ea] at z; exact z
  | ok x h1 =>
    rw [ea] at z
    exact fun L1 H1 s1 => k x h1 L1 H1 s1 z
theorem go_I {m : ML → MH → Res (List MV × Option Nat)} {f : List MV × Option Nat → MH → SO} {Q : It → Hp → Prop} (p : Pt G E L lam σm h σ H) (z : ((m σm h).go σm f).SPost G E W D)
    (k : ∀ iw h1 L1 H1 J kk, Step G q L h H L1 h1 H1 → still iw.2 iw.1 h1 = true → Kp.at kk G L1 h1 H1 → ItOk G kk iw.1 iw.2 J → (f iw h1).SPost G E W D → Q J H1) : rdI G E W q m σ H Q := by
  refine ⟨L, lam, σm, h, p, ?_⟩
  have z := post_go p z
  cases ea : m σm h with
  | bad => rw [ea] at z; exact z
  | exc c k => rw [ea] at z; exact z
  | ok x h1 =>
    rw [ea] at z
    exact fun L1 H1 J kk s1 st kv j => k x h1 L1 H1 J kk s1 st kv j z
/-- a name gets a container that nothing else names -/
theorem Pt.setOwn (p : Pt G E L lam σm h σ H) {L1 : Lay} {h1 : MH} {H1 : Hp} {i : Nat} {c : Ct} {r : Addr} {o : HO} (s : Step G q L h H L1 h1 H1) (e1 : H1 r = some o) (e0 : H r = none) (nh : ¬ Held L1 r) (f : L1.fz r = none) (rc : CtR G L1 h1.length c o) :
    Pt G E L1 (fun k => if k = i then some r else lam k) (σm.set i (.own c)) h1 (σ.set i (some (.ref r))) H1 := by
  have p1 := p.step s
  have old : ∀ {k : Nat} {d : Ct} {a : Addr}, k ≠ i → (σm.set i (.own c))[k]? = some (.own d) → lam k = some a → a ≠ r := fun {k d a} hk e el w => by
    rw [List.getElem?_set_ne (Ne.symm hk)] at e
    obtain ⟨x, _, a', u, _, el', hu, _⟩ := p.at e
    rw [el] at el'; cases el'
    rw [w, e0] at hu; cases hu
  refine ⟨p1.stp, ⟨by simp [p.sr.len], fun k w x ek1 ek2 => ?_, fun k l d d' a k1 k2 k3 k4 => ?_⟩, fun k d a k1 k2 => ?_, p1.pin⟩
  · by_cases hk : i = k
    · subst hk
      have hl : i < σm.length := by simpa using (List.getElem?_eq_some_iff.mp ek1).1
      rw [List.getElem?_set_self hl] at ek1
      cases ek1
      rw [List.getElem?_set_self (by rw [← p.sr.len]; exact hl)] at ek2
      cases ek2
      exact ⟨r, o, rfl, by simp, e1, rc, nh, f⟩
    · rw [List.getElem?_set_ne hk] at ek1 ek2
      have q := p1.sr.slot k w x ek1 ek2
      cases w with
      | own d =>
        obtain ⟨a, u, q1, q2, q3⟩ := q
        exact ⟨a, u, q1, by simp [Ne.symm hk, q2], q3⟩
      | _ => exact q
  · by_cases hk : k = i
    · by_cases hl : l = i
      · rw [hk, hl]
      · have k3 : some r = some a := by simpa [hk] using k3
        have k4 : lam l = some a := by simpa [hl] using k4
        cases k3
        exact absurd rfl (old hl k2 k4)
    · by_cases hl : l = i
      · have k4 : some r = some a := by simpa [hl] using k4
        have k3 : lam k = some a := by simpa [hk] using k3
        cases k4
        exact absurd rfl (old hk k1 k3)
      · rw [List.getElem?_set_ne (Ne.symm hk)] at k1
        rw [List.getElem?_set_ne (Ne.symm hl)] at k2
        exact p.sr.inj k l d d' a k1 k2 (by simpa [hk] using k3) (by simpa [hl] using k4)
  · by_cases hk : k = i
    · have k2 : some r = some a := by simpa [hk] using k2
      cases k2
      cases e : E.H r with
      | none => rfl
      | some u => have := p.stp.dom r (by rw [e]; rfl); rw [e0] at this; cases this
    · rw [List.getElem?_set_ne (Ne.symm hk)] at k1
      exact p.new k d a k1 (by simpa [hk] using k2)
/-- a container of a name changes -/
theorem Pt.putOwn (p : Pt G E L lam σm h σ H) {i : Nat} {c c' : Ct} {a : Addr} {o' : HO} (e : σm[i]? = some (.own c)) (el : lam i = some a) (rc : CtR G L h.length c' o') : Pt G E L lam (σm.set i (.own c')) h σ (upd H a o') := by
  obtain ⟨x, ex, a', u, ea, el', hu, r, nh, f⟩ := p.at e
  rw [el] at el'; cases el'
  have e0 := p.new i c a e el
  have s := own_put (o := o') p.stp e0 (by rw [hu]; rfl) nh f
  have old : ∀ {k : Nat} {d : Ct}, (σm.set i (.own c'))[k]? = some (.own d) → ∃ d', σm[k]? = some (.own d') := fun {k d} ek => by
    by_cases hk : i = k
    · subst hk; exact ⟨c, e⟩
    · rw [List.getElem?_set_ne hk] at ek; exact ⟨d, ek⟩
  refine ⟨s, ⟨by simpa using p.sr.len, fun k w y ek1 ek2 => ?_, fun k l d d' b k1 k2 k3 k4 => ?_⟩, fun k d b k1 k2 => ?_, fun k e => ⟨(p.pin k e).1, fun n b u w e2 => ?_⟩⟩
  · by_cases hk : i = k
    · subst hk
      rw [List.getElem?_set_self (List.getElem?_eq_some_iff.mp e).1] at ek1
      cases ek1
      rw [ex] at ek2; cases ek2
      exact ⟨a, o', ea, el, upd_same, rc, nh, f⟩
    · rw [List.getElem?_set_ne hk] at ek1
      have q := p.sr.slot k w y ek1 ek2
      cases w with
      | own d =>
        obtain ⟨b, u, q1, q2, q3, q4⟩ := q
        refine ⟨b, u, q1, q2, ?_, q4⟩
        rw [upd_ne (fun (w : b = a) => hk (p.sr.inj i k c d a e ek1 el (by rw [← w]; exact q2)))]; exact q3
      | _ => exact q
  · obtain ⟨_, k1⟩ := old k1
    obtain ⟨_, k2⟩ := old k2
    exact p.sr.inj k l _ _ b k1 k2 k3 k4
  · obtain ⟨_, k1⟩ := old k1
    exact p.new k _ b k1 k2
  · obtain ⟨w1, w2, w3⟩ := (p.pin k e).2 n b u w e2
    exact ⟨w1, (upd_ne fun (q : b = a) => nh (.inl ⟨n, q ▸ w1⟩)).trans w2, w3⟩
/-- a name's container is from here on never changed -/
theorem Pt.freeze (p : Pt G E L lam σm h σ H) {i : Nat} {σm' : ML} (e : freezeM i σm = some σm') : ∃ L', Pt G E L' lam σm' h σ H := by
  unfold freezeM at e
  have go : ∀ {c : Ct} {v : MV}, σm[i]? = some (.own c) → (∀ {L : Lay} {a : Addr} {o : HO}, L.fz a = some o → CtR G L h.length c o → VR G L h.length v (.ref a)) → ∃ L', Pt G E L' lam (σm.set i (.val v)) h σ H := fun {c v} ei hv => by
    obtain ⟨x, ex, a, u, ea, el, hu, r, nh, f⟩ := p.at ei
    have s := adoptF (o := u) p.stp hu (p.new i c a ei el) nh f
    have ext := ext_addF (o := u) f (b := h.length)
    have old : ∀ {k : Nat} {d : Ct}, (σm.set i (.val v))[k]? = some (.own d) → k ≠ i ∧ σm[k]? = some (.own d) := fun {k d} ek => by
      by_cases hk : i = k
      · subst hk
        rw [List.getElem?_set_self (List.getElem?_eq_some_iff.mp ei).1] at ek; cases ek
      · rw [List.getElem?_set_ne hk] at ek; exact ⟨fun z => hk z.symm, ek⟩
    refine ⟨L.addF a u, s, ⟨by simpa using p.sr.len, fun k w y ek1 ek2 => ?_, fun k l d d' b k1 k2 k3 k4 => p.sr.inj k l d d' b (old k1).2 (old k2).2 k3 k4⟩, fun k d b k1 k2 => p.new k d b (old k1).2 k2, fun k e => ⟨(p.pin k e).1.mono ext, (p.pin k e).2⟩⟩
    by_cases hk : i = k
    · subst hk
      rw [List.getElem?_set_self (List.getElem?_eq_some_iff.mp ei).1] at ek1
      cases ek1
      rw [ex] at ek2; cases ek2
      subst ea
      exact ⟨_, rfl, hv addF_at (r.mono ext)⟩
    · rw [List.getElem?_set_ne hk] at ek1
      have q := p.sr.slot k w y ek1 ek2
      cases w with
      | un => trivial
      | exc c => exact q
      | val w => obtain ⟨z, q1, q2⟩ := q; exact ⟨z, q1, q2.mono ext⟩
      | own d =>
        obtain ⟨b, u', q1, q2, q3, q4, q5, q6⟩ := q
        refine ⟨b, u', q1, q2, q3, q4.mono ext, q5, ?_⟩
        exact (upd_ne fun (w : b = a) => hk (p.sr.inj i k c d a ei ek1 el (by rw [← w]; exact q2))).trans q6
  split at e
  · rename_i xs ei
    cases e
    exact go ei fun hf r => by cases r with
      | lst rv => exact .lst hf rv
  · rename_i ks vs ei
    cases e
    exact go ei fun hf r => by cases r with
      | dK hl rv => exact .dct (.inl hf) hl rv
  · cases e
/-- a cell changes -/
theorem put_cell (r : HR G L h H) {n : Nat} {a : Addr} {c c' : Cell} {o : HO} (e : h[n]? = some c) (al : L.al n = some a) (rc : CellR G L h.length (upd H a o) n c' o) (nl : ∀ k, c ≠ .lk k := by intro k z; cases z) : Step G false L h H L (h.set n c') (upd H a o) := by
  have hl : (h.set n c').length = h.length := by simp
  have hs : (H a).isSome = true := r.alive n a al
  have hh : Held L a := .inl ⟨n, al⟩
  refine ⟨⟨by simp, fun _ _ _ z => z, fun _ _ z => z⟩, ⟨fun b u z => ?_, fun m b z => ?_, fun m f b z => ?_, r.aa, r.oo, r.ao, r.af, r.of, fun m d z => ?_⟩, fun b u z w => ?_, fun b z => ?_, fun _ _ z => z, fun _ _ z => .inl z, fun z => Bool.noConfusion z, fun m k z => ⟨by
    have hm : n ≠ m := by rintro rfl; rw [e] at z; exact nl k (Option.some.inj z)
    rw [List.getElem?_set_ne hm]; exact z, fun b al' => upd_ne fun q => (show n ≠ m by rintro rfl; rw [e] at z; exact nl k (Option.some.inj z)) (r.aa n m a al (q ▸ al'))⟩⟩
  · rw [upd_ne (by rintro rfl; have := r.af n _ al; rw [z] at this; cases this)]; exact r.fz b u z
  · by_cases hb : b = a
    · subst hb; rw [upd_same]; rfl
    · rw [upd_ne hb]; exact r.alive m b z
  · by_cases hb : b = a
    · subst hb; rw [upd_same]; rfl
    · rw [upd_ne hb]; exact r.olive m f b z
  · rw [hl]
    by_cases hm : n = m
    · subst hm
      rw [List.getElem?_set_self (List.getElem?_eq_some_iff.mp e).1] at z
      cases z
      exact ⟨a, o, al, upd_same, rc⟩
    · rw [List.getElem?_set_ne hm] at z
      obtain ⟨b, u, z1, z2, z3⟩ := r.cell m d z
      have hb : b ≠ a := fun w => hm (r.aa n m a al (w ▸ z1))
      refine ⟨b, u, z1, by rw [upd_ne hb]; exact z2, z3.keep .refl (fun _ _ z => z) fun f x y w z => ?_⟩
      rw [upd_ne (fun (q : x = a) => r.ao n m f a al (by rw [← q]; exact w))]; exact z
  · rw [upd_ne (fun (q : b = a) => w (by rw [q]; exact hh))]; exact z
  · by_cases hb : b = a
    · subst hb; rw [upd_same]; rfl
    · rw [upd_ne hb]; exact z
end
end MP
set_option Elab.async false
set_option linter.all false
set_option autoImplicit false
set_option maxRecDepth 100000
set_option maxHeartbeats 4000000
/-! MP, part r: the rules of statements. -/
namespace MP
open PySem PySem.Spec L2
section
variable {T : Tb} {call : Nat → List MV → MH → Res MV} {Wn : Nat} {G : Gb} {E : Ent} {W : WX} {X : Cx} {q qa qb qc : Bool} {pos p2 : Pos} {a b c e : Expr} {ea eb ec ee : Ex} {es : List Expr} {xs : Exs} {x : Str}
theorem mps_nil : PSs X [] (rdS G E W (execs T call Wn .nil)) :=
  pss_nil.imp fun D σ H ⟨L, lam, σm, h, p, z⟩ => by rw [execs] at z; exact z L lam σ H p
theorem mps_cons {st : Stmt} {rest : List Stmt} {s : Sx} {ss : Sxs} (h1 : PS X st (rdS G E W (exec T call Wn s))) (h2 : PSs X rest (rdS G E W (execs T call Wn ss))) : PSs X (st :: rest) (rdS G E W (execs T call Wn (.cons s ss))) :=
  (pss_cons h1 h2).imp fun D σ H ⟨L, lam, σm, h, p, z⟩ => by
    rw [execs] at z
    dsimp only at z
    refine ⟨L, lam, σm, h, p, ?_⟩
    cases er : exec T call Wn s σm h with
    | nx σ1 h1 => rw [er] at z; exact fun L' lam' σ' H' p' => ⟨L', lam', σ1, h1, p', z⟩
    | rt v h1 => rw [er] at z; exact z
    | bk σ1 h1 => rw [er] at z; exact z
    | ct σ1 h1 => rw [er] at z; exact z
    | exc c σ1 h1 => rw [er] at z; exact z
    | bad => rw [er] at z; exact z
/-- a ghost -/
theorem mps_freeze {rest : List Stmt} {i : Nat} {ss : Sxs} (h2 : PSs X rest (rdS G E W (execs T call Wn ss))) : PSs X rest (rdS G E W (execs T call Wn (.cons (.freeze i) ss))) :=
  h2.imp fun D σ H ⟨L, lam, σm, h, p, z⟩ => by
    rw [execs] at z
    dsimp only at z
    rw [exec] at z
    dsimp only at z
    cases e : freezeM i σm with
    | none => rw [e] at z; exact z.elim
    | some σ1 =>
      rw [e] at z
      obtain ⟨L', p'⟩ := p.freeze e
      exact ⟨L', lam, σ1, h, p', z⟩
theorem mps_pass : PS X (.Pass pos) (rdS G E W (exec T call Wn .pas)) := ps_pass.imp fun D σ H ⟨L, lam, σm, h, p, z⟩ => by rw [exec] at z; exact z L lam σ H p
theorem mps_doc {y : Str} {k : Nat} : PS X (.Expr (.Constant (.str y) k p2) pos) (rdS G E W (exec T call Wn .pas)) := ps_doc.imp fun D σ H ⟨L, lam, σm, h, p, z⟩ => by rw [exec] at z; exact z L lam σ H p
theorem mps_brk : PS X (.Break pos) (rdS G E W (exec T call Wn .brk)) := ps_break.imp fun D σ H ⟨L, lam, σm, h, p, z⟩ => by rw [exec] at z; exact z L lam σ H p
theorem mps_cnt : PS X (.Continue pos) (rdS G E W (exec T call Wn .cnt)) := ps_continue.imp fun D σ H ⟨L, lam, σm, h, p, z⟩ => by rw [exec] at z; exact z L lam σ H p
theorem mps_exp (he : PE X e (rd G E W q (den T call ee))) (oke : okE e = true) (nlc : noLc e = true) : PS X (.Expr e pos) (rdS G E W (exec T call Wn (.exp ee))) :=
  (ps_expr he (swap_of oke nlc _ _ _)).imp fun D σ H ⟨L, lam, σm, h, p, z⟩ => by
    rw [exec] at z
    exact go_seq p z fun x h1 L1 H1 u ea s1 r1 z1 => z1 L1 lam σ H1 (p.step s1)
theorem mps_ret (he : PE X e (rd G E W q (den T call ee))) : PS X (.Return (some e) pos) (rdS G E W (exec T call Wn (.ret ee))) :=
  (ps_ret he).imp fun D σ H ⟨L, lam, σm, h, p, z⟩ => by
    rw [exec] at z
    exact go_vl p z fun x h1 L1 H1 u ea s1 r1 z1 => z1 L1 H1 u (p.stp.trans s1.any) (p.step s1).pin r1
theorem mps_retN : PS X (.Return none pos) (rdS G E W (exec T call Wn .retN)) :=
  ps_retN.imp fun D σ H ⟨L, lam, σm, h, p, z⟩ => by
    rw [exec] at z
    exact z L H .non p.stp p.pin .non
theorem mps_set (hN : X.N.Nodup) {i : Nat} (hi : X.N[i]? = some x) (hx : Loc X.env.scope x) (hf : X.fn x = true) (he : PE X e (rd G E W q (den T call ee))) (oke : okE e = true) (nlc : noLc e = true) : PS X (.Assign [.Name x p2] e pos) (rdS G E W (exec T call Wn (.set i ee))) :=
  (ps_set hN hi hx he (swap_of oke nlc _ _ _) (.inl hf)).imp fun D σ H ⟨L, lam, σm, h, p, z⟩ => by
    rw [exec] at z
    refine go_vl p z fun x h1 L1 H1 u ea s1 r1 z1 => ?_
    by_cases c : i < σm.length
    · rw [if_pos c] at z1; exact z1 L1 lam _ H1 ((p.step s1).setV r1)
    · rw [if_neg c] at z1; exact z1.elim
theorem own_imp {i : Nat} {f : Fx} {D : Ends} {σ : L2.St} {H : Hp} (z : rdS G E W (exec T call Wn (.setOwn i f)) D σ H) : tAsg (rdF G E W q (denF T call f)) (gName i) D σ H := by
  obtain ⟨L, lam, σm, h, p, z⟩ := z
  rw [exec] at z
  refine go_F p z fun c h1 L1 H1 r o s1 e1 e0 nh f rc z1 => ?_
  by_cases hl : i < σm.length
  · rw [if_pos hl] at z1; exact z1 _ _ _ H1 (p.setOwn s1 e1 e0 nh f rc)
  · rw [if_neg hl] at z1; exact z1.elim
theorem mps_own (hN : X.N.Nodup) {i : Nat} {f : Fx} (hi : X.N[i]? = some x) (hx : Loc X.env.scope x) (hf : X.fn x = true) (he : PE X e (rdF G E W q (denF T call f))) (oke : okE e = true) (nlc : noLc e = true) : PS X (.Assign [.Name x p2] e pos) (rdS G E W (exec T call Wn (.setOwn i f))) :=
  (ps_set hN hi hx he (swap_of oke nlc _ _ _) (.inl hf)).imp fun D σ H z => own_imp z
theorem mps_unp (O : Ops G X) (cm : X.calm = true) (hN : X.N.Nodup) {is : List Nat} {n : Nat} (hs : namesOk X is es = true) (he : PE X e (rd G E W q (den T call ee))) (oke : okE e = true) (nlc : noLc e = true) (hw : swappedStores [.Tuple es n p2] e X.env = pure none) :
    PS X (.Assign [.Tuple es n p2] e pos) (rdS G E W (exec T call Wn (.unp is ee))) :=
  (ps_asg he (mpg_tup (E := E) O cm hN hs) (show swapsWithSole [Expr.Tuple es n p2] e pos.line X.env = pure false from swap_of oke nlc (some (Expr.Tuple es n p2)) pos.line X.env) hw).imp fun D σ H ⟨L, lam, σm, h, p, z⟩ => by
    rw [exec] at z
    refine go_seq p z fun x h1 L1 H1 u ea s1 r1 z1 => ?_
    cases x with
    | w c p => exact z1.elim
    | x c => exact z1.elim
    | v x =>
      cases x with
      | tup vs =>
        dsimp only at z1
        cases hs : setAll σm is vs with
        | none => rw [hs] at z1; exact z1.elim
        | some σ1 =>
          rw [hs] at z1
          exact ⟨L1, lam, σm, h1, .tup vs, σ1, p.step s1, r1, hs, fun σ' _ _ p' => z1 L1 lam σ' H1 p'⟩
      | _ => exact z1.elim
theorem mps_ite (hc : PT X c (rdT G E W q fun s h => (den T call ec s h).bool)) {t u : List Stmt} {st su : Sxs} (ht : PSs X t (rdS G E W (execs T call Wn st))) (hu : PSs X u (rdS G E W (execs T call Wn su))) : PS X (.If c t u pos) (rdS G E W (exec T call Wn (.ite ec st su))) :=
  (ps_if hc ht hu).imp fun D σ H ⟨L, lam, σm, h, p, z⟩ => by
    rw [exec] at z
    refine go_T p z fun k h1 L1 H1 s1 z1 => ?_
    cases k with
    | true => rw [if_pos rfl]; exact ⟨L1, lam, σm, h1, p.step s1, z1⟩
    | false => rw [if_neg Bool.false_ne_true]; exact ⟨L1, lam, σm, h1, p.step s1, z1⟩
/-! ### in place -/
def iopOf : B2 → R2
  | .add => fun x y H Q => (rI0 (fun i j => .int (i + j)) x y H Q) ∨ (∃ i j, x = .str i ∧ y = .str j ∧ i.length + j.length ≤ sizeLine ∧ Q (.str (i ++ j)) H)
  | .sub => rI0 fun i j => .int (i - j)
  | .mul => rI CMul fun i j => .int (i * j)
  | .mod => rI (fun _ j => 0 < j) fun i j => .int (i % j)
  | .fdiv => rI CDiv fun i j => .int (i / j)
  | _ => fun _ _ _ _ => False
theorem iop_ok {o : B2} {op : Operator} (e : o.bin = some op) : OpR X (inplaceOp op) (iopOf o) := by
  cases o <;> simp only [B2.bin, Option.some.injEq, reduceCtorEq] at e <;> subst e
  · exact OpR.or iop_add iop_add_str
  · exact iop_sub
  · exact iop_mul
  · exact iop_mod
  · exact iop_fdiv
  · intro pins s σ H x y v u Q I rx ry h; exact h.elim
def B2.inpl : B2 → Bool
  | .add | .sub | .mod => true
  | _ => false
theorem ru_inpl {o : B2} (ho : o.inpl = true) {L : Lay} {h : MH} {H : Hp} {Q : VK} {Z : Nat → MH → Prop} {x y : MV} {u v : V} (nt : ¬ ∃ xs, x = .tup xs) (r : HR G L h H) (kx : VR G L h.length x u) (ky : VR G L h.length y v)
    (z : (ev2 o (.v x) (.v y) h).Post (Val G q L h H Q) Z) : iopOf o u v H Q := by
  have base := ru_all o (fun _ _ => True) (fun _ => none) L h H Q Z (.v x) (.v y) u v r kx ky z
  cases o <;> simp only [B2.inpl, Bool.false_eq_true] at ho
  · rcases base with b | b | b
    · exact .inl b
    · exact .inr b
    · obtain ⟨a1, a2, ys, zs, rfl, rfl, hq, _⟩ := b
      exfalso
      cases x with
      | tup xs => exact nt ⟨xs, rfl⟩
      | int i => cases kx
      | str i => cases kx
      | _ => cases y <;> exact z
  · exact base
  · exact base
end
end MP
set_option Elab.async false
set_option linter.all false
set_option autoImplicit false
set_option maxRecDepth 100000
set_option maxHeartbeats 4000000
/-! MP, part s: the rules of statements: in place, fields, items, methods of lists, loops. -/
namespace MP
open PySem PySem.Spec L2
section
variable {T : Tb} {call : Nat → List MV → MH → Res MV} {Wn : Nat} {G : Gb} {E : Ent} {W : WX} {X : Cx} {q qa qb qc : Bool} {pos p2 apos : Pos} {a b c e : Expr} {ea eb ec ee : Ex} {es : List Expr} {xs : Exs} {x : Str}
theorem post_sif {cnd : Prop} [Decidable cnd] {r : SO} {D : Ends} (z : (if cnd then r else .bad).SPost G E W D) : cnd ∧ r.SPost G E W D := by
  by_cases c : cnd
  · rw [if_pos c] at z; exact ⟨c, z⟩
  · rw [if_neg c] at z; exact z.elim
theorem mps_aug (hN : X.N.Nodup) {i : Nat} {o : B2} {op : Operator} (eo : o.bin = some op) (ho : o.inpl = true) (hi : X.N[i]? = some x) (hx : X.env.scope.names.lookup x = some .local) (he : PE X e (rd G E W q (den T call ee))) : PS X (.AugAssign (.Name x p2) op e pos) (rdS G E W (exec T call Wn (.aug i o ee))) :=
  (ps_aug hN hi (.inl hx) he (iop_ok eo) (.inr hx)).imp fun D σ H ⟨L, lam, σm, h, p, z⟩ => by
    rw [exec] at z
    dsimp only at z
    cases es : σm[i]? with
    | none => rw [es] at z; exact z.elim
    | some v =>
      rw [es] at z
      cases v with
      | val v =>
        obtain ⟨y, ey, u, rfl, ru⟩ := p.at es
        refine ⟨u, ey, ?_⟩
        dsimp only at z
        obtain ⟨fl, z⟩ := post_sif z
        have nt : ¬ ∃ xs, v = .tup xs := fun ⟨xs, e⟩ => by rw [e] at fl; cases fl
        refine go_vl (q := q) p z fun w h1 L1 H1 t e1 s1 r1 z1 => ?_
        have z2 := post_go (p.step s1) z1
        exact ru_inpl (q := false) ho nt s1.hr (s1.vr ru) r1 (Post.imp z2 (fun k h2 z3 L2 H2 t2 s2 r2 => z3 L2 lam _ H2 (((p.step s1).step s2).setV r2)) fun _ _ z => z)
      | un => exact z.elim
      | own c => exact z.elim
      | exc c => exact z.elim
/-- a field's new value -/
theorem put_fld {b n : Nat} {L : Lay} {H : Hp} {f : String} {d : Fd} {x : V} (r : FdR G L b H n f d x) : ∀ {fs : List (String × Fd)} {ys : List (Str × V)}, FdsR G L b H n fs ys → FdsR G L b H n (putFd f d fs) (putF (Str.ofString f) x ys)
  | _, _, .nil => .cons r .nil
  | _, _, .cons (f := g) (d := c) (x := y) (fs := fs) (ys := ys) k t => by
    unfold putFd putF
    by_cases e : g = f
    · subst e
      rw [if_pos rfl, if_pos rfl]
      exact .cons r t
    · rw [if_neg e, if_neg (fun z => e (str_inj z))]
      exact .cons k (put_fld r t)
/-- an instance gets a field -/
theorem fld_set (B : TbOk G T) {L : Lay} {lam : Nat → Option Addr} {σm : ML} {h : MH} {σ : L2.St} {H : Hp} {D : Ends} {o : MV} {u y : V} {f : String} {v : MV} (p : Pt G E L lam σm h σ H) (ro : VR G L h.length o u) (rv : VR G L h.length v y) (z : (setFd T o f (.val v) σm h).SPost G E W D) :
    ∃ a C dx fs, u = .ref a ∧ H a = some (.ins C dx fs) ∧ Cls G.K C ∧ NoAttr G.K C (Str.ofString f) ∧ fs.length < 1000 ∧ D.nx σ (upd H a (.ins C dx (putF (Str.ofString f) y fs))) := by
  unfold setFd at z
  cases o with
  | ref n =>
    cases ro with
    | ref hn al =>
      rename_i ad
      dsimp only at z
      cases hc : h[n]? with
      | none => rw [hc] at z; exact z.elim
      | some cl =>
        rw [hc] at z
        cases cl with
        | ct c => exact z.elim
        | lk c => exact z.elim
        | ins c fs =>
          dsimp only at z
          obtain ⟨⟨tf, hl⟩, z⟩ := post_sif z
          obtain ⟨a', ob, e2, e3, e4⟩ := p.hr.cell n _ hc
          rw [al] at e2; cases e2
          cases e4 with
          | ins rf =>
            rename_i dx ys
            obtain ⟨cl, na⟩ := B.fld _ _ tf
            refine ⟨ad, _, dx, ys, rfl, e3, cl, na, by rw [← rf.length]; exact hl, ?_⟩
            have keep : FdsR G L h.length (upd H ad (.ins (G.ca c) dx (putF (Str.ofString f) y ys))) n fs ys := rf.keep .refl (fun _ _ z => z) fun g x o w z => by
              rw [upd_ne (fun (q : x = ad) => p.hr.ao n n g ad al (by rw [← q]; exact w))]; exact z
            have s := put_cell (c' := .ins c (putFd f (.val v) fs)) p.hr hc al (.ins (put_fld (d := .val v) rv keep))
            exact z L lam σ _ (p.step s)
  | _ => exact z.elim
theorem mps_fld (O : Ops G X) (B : TbOk G T) {f : String} (ex : x = f) (ha : PE X a (rd G E W qa (den T call ea))) (he : PE X e (rd G E W q (den T call ee))) (oke : okE e = true) (nlc : noLc e = true) : PS X (.Assign [.Attribute a x p2] e pos) (rdS G E W (exec T call Wn (.setFld ea f ee))) := by
  subst ex
  refine (ps_fld ha he (swap_of oke nlc _ _ _)).imp fun D σ H ⟨L, lam, σm, h, p, z⟩ => ?_
  rw [exec] at z
  refine go_vl (q := q) p z fun v h1 L1 H1 y e1 s1 r1 z1 => ?_
  refine go_vl (q := qa) (p.step s1) z1 fun o h2 L2 H2 u e2 s2 r2 z2 => ?_
  rw [O.K]
  exact fld_set B ((p.step s1).step s2) r2 (s2.vr r1) z2
theorem mps_fldaug (O : Ops G X) (B : TbOk G T) {f : String} {o : B2} {op : Operator} (eo : o.bin = some op) (ho : o.inpl = true) (ex : x = f) (ha : PE X a (rd G E W qa (den T call ea))) (he : PE X e (rd G E W q (den T call ee))) : PS X (.AugAssign (.Attribute a x p2) op e pos) (rdS G E W (exec T call Wn (.augFld ea f o ee))) := by
  subst ex
  refine (ps_fldaug ha he (iop_ok eo)).imp fun D σ H ⟨L, lam, σm, h, p, z⟩ => ?_
  rw [exec] at z
  refine go_vl (q := qa) p z fun ov h1 L1 H1 u e1 s1 r1 z1 => ?_
  cases hf : flatAt T ov f h1 with
  | none => rw [hf] at z1; exact z1.elim
  | some cy =>
    obtain ⟨c, y⟩ := cy
    rw [hf] at z1
    dsimp only at z1
    cases ov with
    | ref n =>
      cases r1 with
      | ref hn al =>
        rename_i ad
        unfold flatAt at hf
        dsimp only at hf
        cases hc : h1[n]? with
        | none => rw [hc] at hf; cases hf
        | some cl =>
          rw [hc] at hf
          cases cl with
          | ct c => cases hf
          | lk c => cases hf
          | ins c' fs =>
            dsimp only at hf
            by_cases tf : T.fld c' f = true
            · rw [if_pos tf] at hf
              cases hg : getF fs f with
              | none => rw [hg] at hf; cases hf
              | some d =>
                rw [hg] at hf
                cases d with
                | own k => cases hf
                | val y' =>
                  dsimp only at hf
                  by_cases fl : isFlat y' = true
                  · rw [if_pos fl] at hf
                    cases hf
                    obtain ⟨a', ob, e2, e3, e4⟩ := s1.hr.cell n _ hc
                    rw [al] at e2; cases e2
                    cases e4 with
                    | ins rf =>
                      obtain ⟨cl, na⟩ := B.fld _ _ tf
                      obtain ⟨v, l, rv⟩ := rf.get hg
                      rw [O.K]
                      refine ⟨ad, _, _, _, v, rfl, e3, cl, na, l, ?_⟩
                      refine go_vl (q := q) (p.step s1) z1 fun w h2 L2 H2 t e5 s2 r2 z2 => ?_
                      have z3 := post_go ((p.step s1).step s2) z2
                      have nt : ¬ ∃ xs, y = .tup xs := fun ⟨xs, e⟩ => by rw [e] at fl; cases fl
                      refine ru_inpl (q := false) ho nt s2.hr (s2.vr rv) r2 (Post.imp z3 (fun k h3 z4 L3 H3 t2 s3 r3 => ?_) fun _ _ z => z)
                      obtain ⟨cc, z4⟩ := post_sif z4
                      have s123 := (s1.any.trans s2.any).trans s3.any
                      have al3 : L3.al n = some ad := s3.ext.al n ad (Nat.lt_of_lt_of_le hn s2.ext.le) (s2.ext.al n ad hn al)
                      obtain ⟨a2, C2, dx2, fs2, eu, e6, _, _, e7, e8⟩ := fld_set B (((p.step s1).step s2).step s3) (.ref (Nat.lt_of_lt_of_le hn (Nat.le_trans s2.ext.le s3.ext.le)) al3) r3 z4
                      cases eu
                      unfold clsAt at cc
                      dsimp only at cc
                      cases hc3 : h3[n]? with
                      | none => rw [hc3] at cc; cases cc
                      | some cl3 =>
                        rw [hc3] at cc
                        cases cl3 with
                        | ct c => cases cc
                        | lk c => cases cc
                        | ins c3 fs3 =>
                          have cc := Option.some.inj cc
                          subst cc
                          obtain ⟨a4, ob4, f2, f3, f4⟩ := s3.hr.cell n _ hc3
                          rw [al3] at f2; cases f2
                          cases f4 with
                          | ins rf4 =>
                            rw [e6] at f3; cases f3
                            exact ⟨dx2, fs2, e6, e7, e8⟩
                  · rw [if_neg fl] at hf; cases hf
            · rw [if_neg tf] at hf; cases hf
    | _ => cases hf
/-! ### containers at their places -/
/-- what a change of a container at its place leads to -/
theorem put_pl {L : Lay} {lam : Nat → Option Addr} {σm : ML} {h : MH} {σ : L2.St} {H : Hp} {D : Ends} {x : EV} {u : V} {c0 c : Ct} (p : Pt G E L lam σm h σ H) (k : ER G E.px L h.length H lam x u) (e : ctOf x h = some c0) (z : (putPl x c σm h).SPost G E W D) :
    ∃ a o, u = .ref a ∧ H a = some o ∧ CtR G L h.length c0 o ∧ ∀ o', CtR G L h.length c o' → D.nx σ (upd H a o') := by
  obtain ⟨a, o, rfl, e1, e2⟩ := ct_of p.hr k e
  refine ⟨a, o, rfl, e1, e2, fun o' r' => ?_⟩
  unfold putPl at z
  cases x with
  | x c => exact z.elim
  | v x =>
    cases x with
    | ref n =>
      cases k with
      | ref hn al =>
        dsimp only at z
        cases hc : h[n]? with
        | none => rw [hc] at z; exact z.elim
        | some cl =>
          rw [hc] at z
          cases cl with
          | ins c fs => exact z.elim
          | lk c => exact z.elim
          | ct c1 => exact z L lam σ _ (p.step (put_cell (c' := .ct c) p.hr hc al (.ct r')))
    | _ => exact z.elim
  | w c1 pl =>
    cases pl with
    | loc i =>
      obtain ⟨a', o1, ea, el, _⟩ := k
      cases ea
      dsimp only at z
      cases hs : σm[i]? with
      | none => rw [hs] at z; exact z.elim
      | some lv =>
        rw [hs] at z
        cases lv with
        | own c2 => exact z L lam σ _ (p.putOwn hs el r')
        | _ => exact z.elim
    | fld n f => exact z.elim
end
end MP
set_option Elab.async false
set_option linter.all false
set_option autoImplicit false
set_option maxRecDepth 100000
set_option maxHeartbeats 4000000
/-! MP, part t: the rules of statements: items, methods of lists, loops. -/
namespace MP
open PySem PySem.Spec L2
theorem put_zip {κ : Type} [DecidableEq κ] {G : Gb} {L : Lay} {b : Nat} {k : κ} {v : MV} {y : V} (r : VR G L b v y) {ks : List κ} {xs : List MV} {ys : List V} (hl : ks.length = ys.length) (rv : VRs G L b xs ys) :
    ∃ ys', putK (ks.zip ys) k y = (putK2 k v ks xs).1.zip ys' ∧ (putK2 k v ks xs).1.length = ys'.length ∧ VRs G L b (putK2 k v ks xs).2 ys' := by
  have any : ∀ {ks : List κ} {ys : List V}, ks.length = ys.length → ((ks.zip ys).any fun kv => decide (kv.1 = k)) = decide (k ∈ ks) := by
    intro ks
    induction ks with
    | nil => intro ys _; rfl
    | cons j ks ih => intro ys h; cases ys with
      | nil => cases h
      | cons w ys =>
        rw [List.zip_cons_cons, List.any_cons, ih (by simpa using h)]
        by_cases e : j = k
        · simp [e]
        · have e2 : ¬ k = j := fun z => e z.symm
          simp [e, e2]
  unfold putK putK2
  rw [any hl]
  by_cases e : k ∈ ks
  · rw [if_pos (by simpa using e), if_pos e]
    have go : ∀ {ks : List κ} {xs : List MV} {ys : List V}, ks.length = ys.length → VRs G L b xs ys → ∃ ys', ((ks.zip ys).map fun kv => if kv.1 = k then (kv.1, y) else kv) = ks.zip ys' ∧ ks.length = ys'.length ∧ VRs G L b ((ks.zip xs).map fun p => if p.1 = k then v else p.2) ys' := by
      intro ks
      induction ks with
      | nil => intro xs ys h _; exact ⟨[], rfl, rfl, .nil⟩
      | cons j ks ih => intro xs ys h rv; cases rv with
        | nil => cases h
        | cons q t =>
          obtain ⟨ys', e1, e2, e3⟩ := ih (by simpa using h) t
          rename_i w u _ _
          by_cases ej : j = k
          · refine ⟨y :: ys', ?_, by simp [e2], ?_⟩
            · rw [List.zip_cons_cons, List.map_cons, e1, List.zip_cons_cons]; simp [ej]
            · rw [List.zip_cons_cons, List.map_cons]; simp only [ej, if_true]; exact .cons r e3
          · refine ⟨u :: ys', ?_, by simp [e2], ?_⟩
            · rw [List.zip_cons_cons, List.map_cons, e1, List.zip_cons_cons]; simp [ej]
            · rw [List.zip_cons_cons, List.map_cons]; simp only [ej, if_false]; exact .cons q e3
    exact go hl rv
  · rw [if_neg (by simpa using e), if_neg e]
    refine ⟨ys ++ [y], ?_, by simp [hl], rv.append (.cons r .nil)⟩
    rw [List.zip_append hl]; rfl
section
variable {T : Tb} {call : Nat → List MV → MH → Res MV} {Wn : Nat} {G : Gb} {E : Ent} {W : WX} {X : Cx} {q qa qb qc : Bool} {pos p2 apos : Pos} {a b c e : Expr} {ea eb ec ee : Ex} {es : List Expr} {xs : Exs} {x : Str}
def rSetAll : TSet := fun o i v H Q => rSetL o i v H Q ∨ rSetD o i v H Q
theorem set_all (O : Ops G X) : PSet X rSetAll := by
  intro pins s σ H o i v ov iv u Q I ro ri rv h
  rcases h with h | h
  · exact set_list pins s σ H o i v ov iv u Q I ro ri rv h
  · exact set_dict (Nat.lt_of_le_of_lt (Nat.add_le_add_left (by decide) _) O.hu) pins s σ H o i v ov iv u Q I ro ri rv h
theorem asg_ix {o i : Expr} (h : okE i = true) (env : Env) (v : Value) : assign (.Subscript o i p2) env v = (do
      let ov ← holding [v] (eval o env)
      let iv ← holding [v, ov] (eval i env)
      standAt p2
      holding [v, ov, iv] (setItem ov iv v)
      release [v, ov, iv] []) := by
  cases i <;> first | rfl | (simp [okE] at h; done)
theorem set_ct {L : Lay} {b : Nat} {H : Hp} {ad : Addr} {c c' : Ct} {o : HO} {y v : MV} {iu u : V} {Q : Hp → Prop} (e : H ad = some o) (r : CtR G L b c o) (ry : VR G L b y iu) (rv : VR G L b v u) (z : setCt c y v = some c') (k : ∀ o', CtR G L b c' o' → Q (upd H ad o')) : rSetAll (.ref ad) iu u H Q := by
  cases c with
  | lst xs =>
    cases r with
    | lst rx =>
      unfold setCt at z
      cases y with
      | int i =>
        cases ry
        dsimp only at z
        obtain ⟨j, e1, e2⟩ := Option.map_eq_some_iff.mp z
        subst e2
        exact .inl ⟨ad, _, i, j, rfl, rfl, e, by rw [← rx.length]; exact e1, k _ (.lst (rx.set rv j))⟩
      | _ => cases z
  | dK ks xs =>
    cases r with
    | dK hl rx =>
      unfold setCt at z
      dsimp only at z
      obtain ⟨kk, e1, e2⟩ := Option.bind_eq_some_iff.mp z
      by_cases c : ks.length < sizeLine
      · rw [if_pos c] at e2
        cases e2
        obtain ⟨ys', f1, f2, f3⟩ := put_zip (k := kk) rv hl rx
        have ek := key_of ry e1
        subst ek
        refine .inr ⟨ad, _, rfl, DPut.k (k := kk) e (by rw [List.length_zip, ← hl, Nat.min_self]; exact c), ?_⟩
        rw [f1]
        exact k _ (.dK f2 f3)
      · rw [if_neg c] at e2; cases e2
  | dT ks xs => cases z
theorem mps_setIx (O : Ops G X) (ha : PE X a (rd G E W qa (den T call ea))) (hb : PE X b (rd G E W qb (den T call eb))) (he : PE X e (rd G E W q (den T call ee))) (okb : okE b = true) (oke : okE e = true) (nlc : noLc e = true) (nf : ea.nofld = true ∨ qb = true) : PS X (.Assign [.Subscript a b p2] e pos) (rdS G E W (exec T call Wn (.setIx ea eb ee))) :=
  (ps_asg he (pg_sub ha hb (set_all O) (asg_ix okb X.env)) (show swapsWithSole [Expr.Subscript a b p2] e pos.line X.env = pure false from swap_of oke nlc (some (Expr.Subscript a b p2)) pos.line X.env)).imp fun D σ H ⟨L, lam, σm, h, p, z⟩ => by
    rw [exec] at z
    refine go_vl (q := q) p z fun v h1 L1 H1 u e1 s1 r1 z1 => ?_
    refine go_seq (q := qa) (p.step s1) z1 fun o h2 L2 H2 ou e2 s2 r2 z2 => ?_
    refine go_vl (q := qb) ((p.step s1).step s2) z2 fun y h3 L3 H3 iu e3 s3 r3 z3 => ?_
    have ro : ER G E.px L3 h3.length H3 lam o ou := r2.step s3 fun w => by
      rcases nf with n | n
      · rw [nofld_of n _ _ _ _ e2] at w; cases w
      · exact n
    cases hc : ctOf o h3 with
    | none => simp only [hc, Option.bind_none] at z3; exact z3.elim
    | some c =>
      simp only [hc, Option.bind_some] at z3
      cases hs : setCt c y v with
      | none => rw [hs] at z3; exact z3.elim
      | some c' =>
        rw [hs] at z3
        obtain ⟨ad, ob, rfl, f1, f2, f3⟩ := put_pl (((p.step s1).step s2).step s3) ro hc z3
        exact set_ct f1 f2 r3 (s3.vr (s2.vr r1)) hs f3
theorem mps_delIx (ha : PE X a (rd G E W qa (den T call ea))) (hb : PE X b (rd G E W qb (den T call eb))) (nf : ea.nofld = true ∨ qb = true) : PS X (.Delete [.Subscript a b p2] pos) (rdS G E W (exec T call Wn (.delIx ea eb))) :=
  (ps_ddel ha hb).imp fun D σ H ⟨L, lam, σm, h, p, z⟩ => by
    rw [exec] at z
    refine go_seq (q := qa) p z fun o h2 L2 H2 ou e2 s2 r2 z2 => ?_
    refine go_vl (q := qb) (p.step s2) z2 fun y h3 L3 H3 iu e3 s3 r3 z3 => ?_
    have ro : ER G E.px L3 h3.length H3 lam o ou := r2.step s3 fun w => by
      rcases nf with n | n
      · rw [nofld_of n _ _ _ _ e2] at w; cases w
      · exact n
    cases hc : ctOf o h3 with
    | none => simp only [hc, Option.bind_none] at z3; exact z3.elim
    | some c =>
      simp only [hc, Option.bind_some] at z3
      cases hs : delCt c y with
      | none => rw [hs] at z3; exact z3.elim
      | some c' =>
        rw [hs] at z3
        obtain ⟨ad, ob, rfl, f1, f2, f3⟩ := put_pl ((p.step s2).step s3) ro hc z3
        cases c with
        | lst xs => cases hs
        | dT ks xs => cases hs
        | dK ks xs =>
          cases f2 with
          | dK hl rx =>
            rename_i ys
            unfold delCt at hs
            dsimp only at hs
            obtain ⟨kk, e1, e2⟩ := Option.bind_eq_some_iff.mp hs
            obtain ⟨w, e4, e5⟩ := Option.map_eq_some_iff.mp e2
            subst e5
            have ek := key_of r3 e1
            refine ⟨ad, _, kk, rfl, f1, ek, ?_, ?_⟩
            · rcases find_zip (k := kk) hl rx with ⟨g1, _⟩ | ⟨w', y', g1, g2, _⟩
              · rw [e4] at g1; cases g1
              · rw [g2]; rfl
            · have go : ∀ {ks : List Key} {xs : List MV} {ys : List V}, ks.length = ys.length → VRs G L3 h3.length xs ys → ∃ ys', dropK (ks.zip ys) kk = (ks.filter fun j => decide (j ≠ kk)).zip ys' ∧ (ks.filter fun j => decide (j ≠ kk)).length = ys'.length ∧ VRs G L3 h3.length (((ks.zip xs).filter fun p => decide (p.1 ≠ kk)).map fun p => p.2) ys' := by
                intro ks
                induction ks with
                | nil => intro xs ys h _; exact ⟨[], rfl, rfl, .nil⟩
                | cons j ks ih => intro xs ys h rv; cases rv with
                  | nil => cases h
                  | cons q t =>
                    obtain ⟨ys', e1, e2, e3⟩ := ih (by simpa using h) t
                    rename_i w u _ _
                    unfold dropK at e1 ⊢
                    by_cases ej : j = kk
                    · refine ⟨ys', ?_, ?_, ?_⟩
                      · rw [List.zip_cons_cons, List.filter_cons_of_neg (by simp [ej]), List.filter_cons_of_neg (by simp [ej]), e1]
                      · rw [List.filter_cons_of_neg (by simp [ej]), e2]
                      · rw [List.zip_cons_cons, List.filter_cons_of_neg (by simp [ej])]; exact e3
                    · refine ⟨u :: ys', ?_, ?_, ?_⟩
                      · rw [List.zip_cons_cons, List.filter_cons_of_pos (by simp [ej]), List.filter_cons_of_pos (by simp [ej]), List.zip_cons_cons, e1]
                      · rw [List.filter_cons_of_pos (by simp [ej]), List.length_cons, List.length_cons, e2]
                      · rw [List.zip_cons_cons, List.filter_cons_of_pos (by simp [ej]), List.map_cons]; exact .cons q e3
              obtain ⟨ys', g1, g2, g3⟩ := go hl rx
              rw [g1]
              exact f3 _ (.dK g2 g3)
/-! ### a list's own methods -/
theorem mps_mut (O : Ops G X) {m : Mu} (ex : x = (match m with | .append => "append" | .extend => "extend" : String)) (ha : PE X a (rd G E W qa (den T call ea))) (hb : PE X b (rd G E W qb (den T call eb))) (oka : okE a = true) (okb : okE b = true) (nf : ea.nofld = true ∨ qb = true)
    (hl : (apos.endLine == p2.line) = true) : PS X (.Expr (.Call (.Attribute a x apos) [b] [] p2) pos) (rdS G E W (exec T call Wn (.mut m ea eb))) := by
  have fin : ∀ {id : String} {r : V → List V → Hp → VK → Prop}, Slot "list" x id → typeOf (.builtin id) = pure (.type "method_descriptor") → MtR X id r →
      (∀ {L : Lay} {h : MH} {H : Hp} {lam : Nat → Option Addr} {ad : Addr} {c c' : Ct} {o : HO} {y : EV} {yu : V} {Q : VK}, HR G L h H → H ad = some o → CtR G L h.length c o → ER G E.px L h.length H lam y yu → mutCt m c y h = some c' → (∀ o', CtR G L h.length c' o' → Q .non (upd H ad o')) → r (.ref ad) [yu] H Q) →
      PS X (.Expr (.Call (.Attribute a x apos) [b] [] p2) pos) (rdS G E W (exec T call Wn (.mut m ea eb))) := fun {id r} slot ty rule meets => by
    have hA : PA X [b] (tCons (rd G E W qb (den T call eb)) tNil) := pa_cons hb pa_nil (star_of okb [] X.env)
    have hfew : ((backTo p2 (starEach [b] X.env)).all (fun x => !x.1) && (backToKw p2 (keywordEach [] X.env)).all (fun x => x.1.isSome) && decide (([b] : List Expr).length + ([] : List Keyword).length + (if ([] : List Keyword).isEmpty then 0 else 1) < 30)) = true := by
      rw [star_of okb]; rfl
    refine (ps_expr (pe_bm PySem.F.plainAttrs_list slot ty rule ha hA (base_of oka _ _ _) hfew hl (star_of okb [] X.env) rfl) (by rfl)).imp fun D σ H ⟨L, lam, σm, h, p, z⟩ => ?_
    rw [exec] at z
    refine go_seq (q := qa) p z fun o h1 L1 H1 ou e1 s1 r1 z1 => ?_
    cases hc : ctOf o h1 with
    | none => rw [hc] at z1; exact z1.elim
    | some c =>
      rw [hc] at z1
      cases c with
      | dK ks vs => exact z1.elim
      | dT ks vs => exact z1.elim
      | lst vs =>
        dsimp only at z1
        obtain ⟨ad, ob, rfl, f1, f2⟩ := ct_of s1.hr r1 hc
        refine ⟨?_, ?_⟩
        · cases f2 with
          | lst rv => exact .inl ⟨rfl, _, SqL.of f1⟩
        · refine go_seq (q := qb) (p.step s1) z1 fun y h2 L2 H2 yu e2 s2 r2 z2 => ?_
          have ro : ER G E.px L2 h2.length H2 lam o (.ref ad) := r1.step s2 fun w => by
            rcases nf with n | n
            · rw [nofld_of n _ _ _ _ e1] at w; cases w
            · exact n
          cases hc2 : ctOf o h2 with
          | none => simp only [hc2, Option.bind_none] at z2; exact z2.elim
          | some c2 =>
            simp only [hc2, Option.bind_some] at z2
            cases hm : mutCt m c2 y h2 with
            | none => rw [hm] at z2; exact z2.elim
            | some c' =>
              rw [hm] at z2
              obtain ⟨ad', ob', eu, g1, g2, g3⟩ := put_pl ((p.step s1).step s2) ro hc2 z2
              cases eu
              exact meets s2.hr g1 g2 r2 hm g3
  cases m with
  | append =>
    subst ex
    refine fin PySem.F.slot_list_append PySem.F.type_list_append mt_append fun {L h H lam ad c c' o y yu Q} r e rc ry hm k => ?_
    cases c with
    | lst xs =>
      cases rc with
      | lst rv =>
        cases y with
        | v y =>
          unfold mutCt at hm
          dsimp only at hm
          by_cases c : xs.length < sizeLine
          · rw [if_pos c] at hm
            cases hm
            exact ⟨ad, _, yu, rfl, rfl, e, by rw [← rv.length]; exact c, k _ (.lst (rv.append (.cons ry .nil)))⟩
          · rw [if_neg c] at hm; cases hm
        | w c p => cases hm
        | x c => cases hm
    | dK ks xs => cases hm
    | dT ks xs => cases hm
  | extend =>
    subst ex
    refine fin PySem.F.slot_list_extend PySem.F.type_list_extend mt_extend fun {L h H lam ad c c' o y yu Q} r e rc ry hm k => ?_
    cases c with
    | lst xs =>
      cases rc with
      | lst rv =>
        unfold mutCt at hm
        dsimp only at hm
        cases hy : lstOf y h with
        | none => rw [hy] at hm; cases hm
        | some zs =>
          rw [hy] at hm
          dsimp only at hm
          obtain ⟨bd, ws, rfl, e2, rw2⟩ := lst_of r ry hy
          by_cases c : xs.length + zs.length ≤ sizeLine
          · rw [if_pos c] at hm
            cases hm
            exact ⟨ad, bd, _, ws, rfl, rfl, e, e2, by rw [← rv.length, ← rw2.length]; exact c, k _ (.lst (rv.append rw2))⟩
          · rw [if_neg c] at hm; cases hm
    | dK ks xs => cases hm
    | dT ks xs => cases hm
/-! ### loops -/
/-- more values are kept in mind -/
def Ent.pin (E : Ent) (k : Kp) : Ent := { E with pn := fun w => E.pn w ∨ w = k }
theorem Pt.pinned {L : Lay} {lam : Nat → Option Addr} {σm : ML} {h : MH} {σ : L2.St} {H : Hp} {kk : Kp} (p : Pt G E L lam σm h σ H) (r : kk.at G L h H) : Pt G (E.pin kk) L lam σm h σ H :=
  ⟨p.stp, p.sr, p.new, fun k e => by
    rcases e with e | rfl
    · exact p.pin k e
    · exact r⟩
theorem Pt.unpin {L : Lay} {lam : Nat → Option Addr} {σm : ML} {h : MH} {σ : L2.St} {H : Hp} {kk : Kp} (p : Pt G (E.pin kk) L lam σm h σ H) : Pt G E L lam σm h σ H ∧ kk.at G L h H :=
  ⟨⟨p.stp, p.sr, p.new, fun k e => p.pin k (.inl e)⟩, p.pin kk (.inr rfl)⟩
theorem post_imp {r : SO} {E' : Ent} {W' : WX} {D D' : Ends} (z : r.SPost G E W D) (hn : ∀ σm h L lam σ H, r = .nx σm h → Pt G E' L lam σm h σ H → D'.nx σ H) (hr : ∀ v h, r = .rt v h → ∀ L H x, Step G false E'.L E'.h E'.H L h H → VR G L h.length v x → D'.rt x H) (hb : ∀ σm h L lam σ H, r = .bk σm h → Pt G E' L lam σm h σ H → D'.bk σ H)
    (hc : ∀ σm h L lam σ H, r = .ct σm h → Pt G E' L lam σm h σ H → D'.ct σ H) (hx : ∀ c σm h L lam σ H, r = .exc c σm h → Pt G E' L lam σm h σ H → W' (G.cv c) none σ H) : r.SPost G E' W' D' := by
  cases r with
  | nx σm h => exact fun L lam σ H p => hn σm h L lam σ H rfl p
  | rt v h => exact fun L H x s _ k => hr v h rfl L H x s k
  | bk σm h => exact fun L lam σ H p => hb σm h L lam σ H rfl p
  | ct σm h => exact fun L lam σ H p => hc σm h L lam σ H rfl p
  | exc c σm h => exact fun L lam σ H p => hx c σm h L lam σ H rfl p
  | bad => exact z
/-- a body that is run with anything kept in mind -/
def rdP (G : Gb) (E : Ent) (W : WX) (m : ML → MH → SO) : TS := fun D σ H => ∃ kk, rdS G (E.pin kk) W m D σ H
def rdGp (G : Gb) (E : Ent) (t : Tg) : TG := fun x σ H Q => ∃ kk, rdG G (E.pin kk) t x σ H Q
theorem mps_pinned {body : List Stmt} {m : ML → MH → SO} (h : ∀ kk, PSs X body (rdS G (E.pin kk) W m)) : PSs X body (rdP G E W m) := ⟨fun pins s σ H D I ⟨kk, z⟩ => (h kk).run pins s σ H D I z⟩
theorem mpg_pinned {tg : Expr} {t : Tg} (hg : ∀ E, PG X tg (rdG G E t)) : PG X tg (rdGp G E t) := ⟨fun pins s σ H y w Q I r ⟨kk, z⟩ => (hg (E.pin kk)).run pins s σ H y w Q I r z⟩
/-- the turns of a loop -/
theorem for_core {D : Ends} {L1 : Lay} {lam : Nat → Option Addr} {σm : ML} {h1 : MH} {σ : L2.St} {H1 : Hp} {t : Tg} {iw : List MV × Option Nat} {sb : Sxs} {kk : Kp} {J : It} (p : Pt G E L1 lam σm h1 σ H1) (st0 : still iw.2 iw.1 h1 = true) (k0 : kk.at G L1 h1 H1) (J0 : ItOk G kk iw.1 iw.2 J)
    (z1 : (forL t iw.2 iw.1 (execs T call Wn sb) iw.1 σm h1).SPost G E W D) :
    ∃ Wv : Nat → Nat → L2.St → Hp → Prop, (∃ m, Wv 0 m σ H1) ∧ ∀ i m σ H, Wv i m σ H →
      (J.stop i H ∧ D.nx σ H) ∨ (J.go i H ∧ ∃ N : L2.St → Hp → Prop, (∀ σ' H', N σ' H' → ∃ m', m' < m ∧ Wv (i + 1) m' σ' H') ∧ ∀ x H', J.yld i H x H' → rdGp G E t x σ H' fun σ2 H2 => rdP G E W (execs T call Wn sb) { D with nx := N, ct := N, bk := D.nx } σ2 H2) := by
  refine ⟨fun i m σ' H' => m = iw.1.length - i ∧ i ≤ iw.1.length ∧ ∃ L' lam' σm' h', Pt G (E.pin kk) L' lam' σm' h' σ' H' ∧ still iw.2 iw.1 h' = true ∧ (forL t iw.2 iw.1 (execs T call Wn sb) (iw.1.drop i) σm' h').SPost G E W D,
    ⟨iw.1.length, by simp, Nat.zero_le _, L1, lam, σm, h1, p.pinned k0, st0, by rw [List.drop_zero]; exact z1⟩, ?_⟩
  rintro i m σ' H' ⟨rfl, hi', L', lam', σm', h', p', st, z'⟩
  obtain ⟨p'', k'⟩ := p'.unpin
  by_cases hlt : i < iw.1.length
  · refine .inr ?_
    have hv : iw.1[i]? = some iw.1[i] := List.getElem?_eq_getElem hlt
    obtain ⟨go, yld⟩ := J0.turn i _ L' h' H' hv k' p'.hr st
    refine ⟨go, _, fun σ2 H2 nx => ⟨iw.1.length - (i + 1), by omega, nx⟩, fun y H2 yy => ?_⟩
    obtain ⟨La, s2, r2⟩ := yld y H2 yy
    rw [List.drop_eq_getElem_cons hlt] at z'
    unfold forL at z'
    cases ha : asg t iw.1[i] σm' with
    | none => rw [ha] at z'; exact z'.elim
    | some σ1 =>
      rw [ha] at z'
      dsimp only at z'
      refine ⟨kk, La, lam', σm', h', _, σ1, p'.step s2, r2, ha, fun σ3 _ _ p3 => ⟨kk, La, lam', σ1, h', p3, ?_⟩⟩
      have turn : ∀ {σ4 : ML} {h4 : MH}, (if still iw.2 iw.1 h4 = true then forL t iw.2 iw.1 (execs T call Wn sb) (iw.1.drop (i + 1)) σ4 h4 else .bad).SPost G E W D → ∀ {L5 : Lay} {lam5 : Nat → Option Addr} {σ5 : L2.St} {H5 : Hp}, Pt G (E.pin kk) L5 lam5 σ4 h4 σ5 H5 →
          iw.1.length - (i + 1) = iw.1.length - (i + 1) ∧ i + 1 ≤ iw.1.length ∧ ∃ L' lam' σm' h', Pt G (E.pin kk) L' lam' σm' h' σ5 H5 ∧ still iw.2 iw.1 h' = true ∧ (forL t iw.2 iw.1 (execs T call Wn sb) (iw.1.drop (i + 1)) σm' h').SPost G E W D := fun {σ4 h4} z4 {L5 lam5 σ5 H5} p5 => by
        obtain ⟨c, z4⟩ := post_sif z4
        exact ⟨rfl, hlt, L5, lam5, σ4, h4, p5, c, z4⟩
      cases er : execs T call Wn sb σ1 h' with
      | nx σ4 h4 => rw [er] at z'; exact fun L5 lam5 σ5 H5 p5 => turn z' p5
      | ct σ4 h4 => rw [er] at z'; exact fun L5 lam5 σ5 H5 p5 => turn z' p5
      | bk σ4 h4 => rw [er] at z'; exact fun L5 lam5 σ5 H5 p5 => z' L5 lam5 σ5 H5 p5.unpin.1
      | rt w h4 => rw [er] at z'; exact fun L H x s pk r => z' L H x s (fun k e => pk k (.inl e)) r
      | exc c σ4 h4 => rw [er] at z'; exact fun L5 lam5 σ5 H5 p5 => z' L5 lam5 σ5 H5 p5.unpin.1
      | bad => rw [er] at z'; exact z'.elim
  · have e : i = iw.1.length := by omega
    subst e
    rw [List.drop_length] at z'
    exact .inl ⟨J0.stop L' h' H' k' p'.hr st, z' L' lam' σ' H' p''⟩
theorem mps_for (O : Ops G X) (cm : X.calm = true) (hp : PassesOwn (model X.prog X.w) X.A X.env X.xe) {tg iter : Expr} {body : List Stmt} {t : Tg} {it : Ite} {sb : Sxs} (hi : PI X tg iter (rdI G E W q (denI T call it))) (oki : okE iter = true) (hg : ∀ E, PG X tg (rdG G E t)) (hb : ∀ kk, PSs X body (rdS G (E.pin kk) W (execs T call Wn sb))) :
    PS X (.For tg iter body [] pos) (rdS G E W (exec T call Wn (.for t it sb))) :=
  (ps_for hp cm hi (mpg_pinned (E := E) hg) (mps_pinned (E := E) hb) (fold_of oki X.env)).imp fun D σ H ⟨L, lam, σm, h, p, z⟩ => by
    rw [exec] at z
    refine go_I p z fun iw h1 L1 H1 J kk s1 st0 k0 J0 z1 => ?_
    exact for_core (p.step s1) st0 k0 J0 z1
theorem mps_while (hp : PassesOwn (model X.prog X.w) X.A X.env X.xe) {body : List Stmt} {sb : Sxs} (hc : PT X c (rdT G E W q fun s h => (den T call ec s h).bool)) (hb : PSs X body (rdS G E W (execs T call Wn sb))) : PS X (.While c body [] pos) (rdS G E W (exec T call Wn (.whil ec sb))) :=
  (ps_while hp hc hb).imp fun D σ H ⟨L, lam, σm, h, p, z⟩ => by
    rw [exec] at z
    refine ⟨fun m σ' H' => ∃ L' lam' σm' h', Pt G E L' lam' σm' h' σ' H' ∧ (whiL (fun σ h => (den T call ec σ h).bool) (execs T call Wn sb) m σm' h').SPost G E W D, ⟨Wn, L, lam, σm, h, p, z⟩, ?_⟩
    rintro m σ' H' ⟨L', lam', σm', h', p', z'⟩
    cases m with
    | zero => exact z'.elim
    | succ m =>
      unfold whiL at z'
      refine go_T p' z' fun k h1 L1 H1 s1 z1 => ?_
      cases k with
      | false =>
        rw [if_neg Bool.false_ne_true] at z1 ⊢
        exact z1 L1 lam' σ' H1 (p'.step s1)
      | true =>
        rw [if_pos rfl] at z1 ⊢
        refine ⟨_, fun σ2 H2 nx => ⟨m, Nat.lt_succ_self _, nx⟩, L1, lam', σm', h1, p'.step s1, ?_⟩
        cases er : execs T call Wn sb σm' h1 with
        | nx σ4 h4 => rw [er] at z1; exact fun L5 lam5 σ5 H5 p5 => ⟨L5, lam5, σ4, h4, p5, z1⟩
        | ct σ4 h4 => rw [er] at z1; exact fun L5 lam5 σ5 H5 p5 => ⟨L5, lam5, σ4, h4, p5, z1⟩
        | bk σ4 h4 => rw [er] at z1; exact z1
        | rt w h4 => rw [er] at z1; exact z1
        | exc c σ4 h4 => rw [er] at z1; exact z1
        | bad => rw [er] at z1; exact z1.elim
end
end MP
set_option Elab.async false
set_option linter.all false
set_option autoImplicit false
set_option maxRecDepth 100000
set_option maxHeartbeats 4000000
/-! MP, part t2: exceptions: raise, try, isinstance of the exception that is handled; splits. -/
namespace MP
open PySem PySem.Spec L2
/-- what is asked of the table of exceptions -/
structure TbEx (G : Gb) (T : Tb) : Prop where
  exs : ∀ c d b, T.exs c d = some b → G.cv c = .ref (G.ca c) ∧ G.cv d = .ref (G.ca d) ∧ ExcC G.K (G.ca c) ∧ PySem.W.kitOne G.K (.ref (G.ca c)) (.ref (G.ca d)) = some b ∧ PySem.W.exmOne G.K (.ref (G.ca c)) (.ref (G.ca d)) = some b
  exa : ∀ c t b, T.exa c t = some b → G.cv c = .ref (G.ca c) ∧ ExcC G.K (G.ca c) ∧ PySem.W.kitOne G.K (.ref (G.ca c)) (.type t) = some b
  rai : ∀ c, T.rai c = true → G.cv c = .ref (G.ca c) ∧ PySem.W.excIn G.K (G.ca c) He.veBase "ValueError.__new__" = true ∧ PySem.W.keepIn G.K (.ref (G.ca c)) = true ∧ PySem.W.subIn G.K (.ref (G.ca c)) (.type "BaseException") = some true ∧ PySem.W.typeIn G.K (.ref (G.ca c)) = some (.type "type")
/-- the context is an except suite, a the exception, c its class -/
def IsX (G : Gb) (X : Cx) (a : Addr) (c : Nat) : Prop := ∃ (X0 : Cx) (oe : Obj) (pn : List (Addr × Obj)), X = X0.suite a ((a, oe) :: pn) ∧ Zc (G.cv c) none oe ∧ ∃ vs, oe.data = .fields vs
section
variable {T : Tb} {call : Nat → List MV → MH → Res MV} {Wn : Nat} {G : Gb} {E : Ent} {W : WX} {X : Cx} {q qa qb : Bool} {pos p p1 p2 apos : Pos} {a b : Expr} {ea eb : Ex} {x y n : Str}
theorem mp_isx {i : Nat} {v : MV} {s : String} (O : Ops G X) (B : TbEx G T) (hp : ∀ a c, E.px a c → IsX G X a c) (hg : Gl X "isinstance") (hm : X.mg "isinstance" = none) (hN : X.N[i]? = some n) (hv : Vis X.env.scope n) (hd : (n == ("__debug__" : Str)) = false) (hc : (n == ("__classdict__" : Str)) = false) (gy : Gl X y) (g : Glob G X y v) :
    PE X (.Call (.Name "isinstance" p) [.Name n p1, .Name y p2] [] pos) (rd G E W q (den T call (.isx i s v))) := by
  refine ⟨fun pins st σ H Q I z => ?_⟩
  obtain ⟨L, lam, σm, h, pt, z⟩ := z
  rw [den] at z
  dsimp only at z
  cases e : σm[i]? with
  | none => rw [e] at z; exact z.elim
  | some w =>
    rw [e] at z
    cases w with
    | exc c =>
      dsimp only at z
      obtain ⟨o, eo, so⟩ := pt.at e
      obtain ⟨ad, rfl, hpx⟩ := so
      obtain ⟨X0, oe, pn, rfl, hz, hf⟩ := hp ad c hpx
      cases eb : excIs T c v with
      | none => rw [eb] at z; exact z.elim
      | some k =>
        rw [eb] at z
        have fin : Q (.bl k) H := z L H (.bl k) (.refl pt.hr) (.bl k)
        obtain ⟨u, yv, r, kk, hdy, hmy⟩ := g
        have vy : ∃ cv, (∀ u, RelV yv u → u = cv) ∧ PySem.W.kitOne G.K (.ref (G.ca c)) cv = some k ∧ G.cv c = .ref (G.ca c) ∧ ExcC G.K (G.ca c) := by
          unfold excIs at eb
          cases v with
          | cls d =>
            have ky := kk L 0
            cases ky
            obtain ⟨q1, q2, q3, q4, q5⟩ := B.exs c d k eb
            exact ⟨_, fun u z => z, q4, q1, q3⟩
          | ty t =>
            have ky := kk L 0
            cases ky
            obtain ⟨q1, q2, q3⟩ := B.exa c t k eb
            exact ⟨_, fun u z => z, q3, q1, q2⟩
          | _ => cases eb
        obtain ⟨cv, hcv, hkit, ecv, hC⟩ := vy
        rw [ecv] at hz
        have hA : PA (X0.suite ad ((ad, oe) :: pn)) [.Name n p1, .Name y p2] (tCons (tVar i) (tCons (tC yv) tNil)) := by
          refine pa_cons (pe_var hN hv hd hc) (pa_cons ?_ pa_nil)
          rcases hmy with hmy | ⟨hm1, hm2, hm3⟩
          · exact pe_glob gy hmy r hdy
          · exact pe_bltn gy hm1 hm2 r hm3 hdy
        have OK : (X0.suite ad ((ad, oe) :: pn)).K = G.K := O.K
        have hC' : ExcC X0.K (G.ca c) := by
          have : X0.K = G.K := OK
          rw [this]; exact hC
        have hkit' : PySem.W.kitOne X0.K (.ref (G.ca c)) cv = some k := by
          have : X0.K = G.K := OK
          rw [this]; exact hkit
        refine (pe_callB (call_isE hC' hz hf) hg hm (by decide +kernel) hA).run pins st σ H Q I ?_
        exact ⟨_, eo, yv, cv, k, rfl, hcv, hkit', fin⟩
    | _ => exact z.elim
/-- s.split(t) -/
theorem mpf_split (O : Ops G X) (ex : x = "split") (ha : PE X a (rd G E W qa (den T call ea))) (hb : PE X b (rd G E W qb (den T call eb))) (oka : okE a = true) (okb : okE b = true) (hl : (apos.endLine == pos.line) = true) (ia : q = true → qa = true) (ib : q = true → qb = true) :
    PE X (.Call (.Attribute a x apos) [b] [] pos) (rdF G E W q (denF T call (.split ea eb))) := by
  subst ex
  refine (pe_split ha hb (by rw [star_of okb]; rfl) (base_of oka _ _ _) hl).imp fun σ H Q ⟨L, lam, σm, h, p, z⟩ => ?_
  rw [denF] at z
  dsimp only at z
  refine rd_vb (qa := qa) p z fun x h1 L1 H1 u e1 s1 r1 z1 => ?_
  cases x with
  | str t =>
    cases r1
    refine ⟨⟨t, rfl⟩, rd_vb (qa := qb) (p.step s1) z1 fun y h2 L2 H2 v e2 s2 r2 z2 => ?_⟩
    cases y with
    | str w =>
      cases r2
      obtain ⟨c, z3⟩ := post_if z2
      refine ⟨t, w, rfl, rfl, c.1, c.2, fun p hp => ?_⟩
      have vs : ∀ (l : List Str), VRs G L2 h2.length (l.map MV.str) (l.map V.str) := fun l => by
        induction l with
        | nil => exact .nil
        | cons s l ih => exact .cons (.str s) ih
      exact new_ct (s1.tr s2 ia ib) (.lst (vs _)) hp z3
    | _ => exact z2.elim
  | _ => exact z1.elim
/-- raise X('..') -/
theorem mps_raise {c : Nat} {m : Str} {k : Nat} (O : Ops G X) (cm : X.calm = true) (tk : Takes X W) (B : TbEx G T) (hr : T.rai c = true) (hg : Gl X x) (hm : X.mg x = some (.ref (G.ca c))) (hd : (x == ("__debug__" : Str)) = false) :
    PS X (.Raise (some (.Call (.Name x p) [.Constant (.str m) k p2] [] p1)) none pos) (rdS G E W (exec T call Wn (.raise c))) := by
  obtain ⟨e1, e2, e3, e4, e5⟩ := B.rai c hr
  rw [← O.K] at e2 e3 e4 e5
  have pm : PMk X (.Call (.Name x p) [.Constant (.str m) k p2] [] p1) (fun _ H Q => Q (.ref (G.ca c)) none H) := pmk_own PySem.F.excBase_ValueError e2 hm e3 (raises_own e4 e5) hg hd
  refine (ps_raise cm tk pm).imp fun D σ H ⟨L, lam, σm, h, p, z⟩ => ?_
  rw [exec] at z
  have := z L lam σ H p
  rw [e1] at this
  exact this
end
end MP
set_option Elab.async false
set_option linter.all false
set_option autoImplicit false
set_option maxRecDepth 100000
set_option maxHeartbeats 4000000
/-! MP, part t3: try. -/
namespace MP
open PySem PySem.Spec L2
/-- a block's entry where the exception a of class c is handled -/
def Ent.exc (E : Ent) (a : Addr) (c : Nat) : Ent := { E with px := fun a' c' => a' = a ∧ c' = c }
section
variable {G : Gb} {E : Ent} {W : WX} {L : Lay} {lam : Nat → Option Addr} {σm : ML} {h : MH} {σ : L2.St} {H : Hp}
theorem noX_get {σ : ML} {k : Nat} {v : LV} (e : (noX σ)[k]? = some v) : ∃ w, σ[k]? = some w ∧ ((∃ c, w = .exc c ∧ v = .un) ∨ (v = w ∧ ∀ c, w ≠ .exc c)) := by
  unfold noX at e
  rw [List.getElem?_map] at e
  cases ew : σ[k]? with
  | none => rw [ew] at e; cases e
  | some w =>
    rw [ew] at e
    refine ⟨w, rfl, ?_⟩
    cases w with
    | exc c => cases e; exact .inl ⟨c, rfl, rfl⟩
    | _ => cases e; exact .inr ⟨rfl, fun c z => by cases z⟩
theorem noX_len {σ : ML} : (noX σ).length = σ.length := by unfold noX; simp
/-- the name of the clause gets the exception -/
theorem Pt.setExc (p : Pt G E L lam σm h σ H) (i : Nat) (a : Addr) (c : Nat) : Pt G (E.exc a c) L lam ((noX σm).set i (.exc c)) h (σ.set i (some (.ref a))) H := by
  have own : ∀ {k : Nat} {d : Ct}, ((noX σm).set i (.exc c))[k]? = some (.own d) → σm[k]? = some (.own d) := fun {k d} e => by
    by_cases hk : i = k
    · subst hk
      have hl : i < (noX σm).length := by have := (List.getElem?_eq_some_iff.mp e).1; simpa using this
      rw [List.getElem?_set_self hl] at e
      cases e
    · rw [List.getElem?_set_ne hk] at e
      obtain ⟨w, e1, ⟨c, _, e2⟩ | ⟨e2, _⟩⟩ := noX_get e
      · cases e2
      · rw [e1, e2]
  refine ⟨p.stp, ⟨by rw [List.length_set, noX_len, List.length_set]; exact p.sr.len, fun k v x e1 e2 => ?_, fun k l c d b e1 e2 e3 e4 => p.sr.inj k l c d b (own e1) (own e2) e3 e4⟩, fun k c b e1 e2 => p.new k c b (own e1) e2, p.pin⟩
  by_cases hk : i = k
  · subst hk
    have hl : i < (noX σm).length := by have := (List.getElem?_eq_some_iff.mp e1).1; simpa using this
    have hl2 : i < σ.length := by rw [← p.sr.len, ← noX_len]; exact hl
    rw [List.getElem?_set_self hl] at e1
    rw [List.getElem?_set_self hl2] at e2
    cases e1; cases e2
    exact ⟨a, rfl, rfl, rfl⟩
  · rw [List.getElem?_set_ne hk] at e1 e2
    obtain ⟨w, e3, ⟨c, _, e4⟩ | ⟨e4, ne⟩⟩ := noX_get e1
    · subst e4; trivial
    · subst e4
      have q := p.sr.slot k _ x e3 e2
      cases v with
      | exc c => exact absurd rfl (ne c)
      | _ => exact q
/-- .. and is unbound behind the suite -/
theorem Pt.unExc {a : Addr} {c : Nat} (p : Pt G (E.exc a c) L lam σm h σ H) (i : Nat) : Pt G E L lam (noX (σm.set i .un)) h (σ.set i none) H := by
  have own : ∀ {k : Nat} {d : Ct}, (noX (σm.set i .un))[k]? = some (.own d) → σm[k]? = some (.own d) := fun {k d} e => by
    obtain ⟨w, e1, ⟨c, _, e2⟩ | ⟨e2, _⟩⟩ := noX_get e
    · cases e2
    · subst e2
      by_cases hk : i = k
      · subst hk
        have hl : i < σm.length := by have := (List.getElem?_eq_some_iff.mp e1).1; simpa using this
        rw [List.getElem?_set_self hl] at e1
        cases e1
      · rw [List.getElem?_set_ne hk] at e1; exact e1
  refine ⟨p.stp, ⟨by rw [noX_len, List.length_set, List.length_set]; exact p.sr.len, fun k v x e1 e2 => ?_, fun k l c d b e1 e2 e3 e4 => p.sr.inj k l c d b (own e1) (own e2) e3 e4⟩, fun k c b e1 e2 => p.new k c b (own e1) e2, p.pin⟩
  obtain ⟨w, e3, ⟨c, _, e4⟩ | ⟨e4, ne⟩⟩ := noX_get e1
  · subst e4; trivial
  · subst e4
    by_cases hk : i = k
    · subst hk
      have hl : i < σm.length := by have := (List.getElem?_eq_some_iff.mp e3).1; simpa using this
      rw [List.getElem?_set_self hl] at e3
      cases e3
      trivial
    · rw [List.getElem?_set_ne hk] at e2 e3
      have q := p.sr.slot k _ x e3 e2
      cases v with
      | exc c => exact absurd rfl (ne c)
      | _ => exact q
end
section
variable {T : Tb} {call : Nat → List MV → MH → Res MV} {Wn : Nat} {G : Gb} {E : Ent} {W : WX} {X : Cx} {pos np pos' : Pos} {x n : Str} {body suite : List Stmt} {b₀ : Stmt} {sb ss : Sxs} {i d : Nat}
theorem mps_try_as (O : Ops G X) (B : TbEx G T) (hs : X.stack = X.env :: X.outer) (hf : X.env.frame = some X.env.locals) (hN : X.N.Nodup) (hi : X.N[i]? = some n) (hln : X.env.kindOf n = some .local) (hc : Names X x (.ref (G.ca d))) (tk : Takes X W)
    (hb : ∀ (W : WX) (pn : List (Addr × Obj)) (xe : Value → Shared → Prop), Takes (X.tr pn xe) W → PassesOwn (model X.prog X.w) X.A X.env xe → PSs (X.tr pn xe) body (rdS G E W (execs T call Wn sb)))
    (hsu : ∀ (a : Addr) (oe : Obj) (c : Nat) (pn : List (Addr × Obj)), Zc (G.cv c) none oe → (∃ vs, oe.data = .fields vs) → PSs (X.suite a ((a, oe) :: pn)) (b₀ :: suite) (rdS G (E.exc a c) (fun _ _ _ _ => False) (execs T call Wn ss))) :
    PS X (.Try body [.ExceptHandler (some (.Name x np)) (some n) (b₀ :: suite) pos'] [] [] pos) (rdS G E W (exec T call Wn (.try sb (.cons d (some i) ss .nil)))) := by
  refine (ps_try_as (tb := fun W => rdS G E W (execs T call Wn sb)) (ts := fun a cls dd => fun D σ H => ∃ c, cls = G.cv c ∧ dd = none ∧ rdS G (E.exc a c) (fun _ _ _ _ => False) (execs T call Wn ss) D σ H) hs hf hN hi hln hc tk hb fun a oe cls dd pn hz hfl => ?_).imp fun D σ H ⟨L, lam, σm, h, p, z⟩ => ?_
  · refine ⟨fun pins s σ H D I ⟨c, e1, e2, z⟩ => ?_⟩
    subst e1 e2
    exact (hsu a oe c pn hz hfl).run pins s σ H D I z
  · refine ⟨L, lam, σm, h, p, ?_⟩
    rw [exec] at z
    dsimp only at z
    cases er : execs T call Wn sb σm h with
    | nx σ1 h1 => rw [er] at z; exact z
    | rt v h1 => rw [er] at z; exact z
    | bk σ1 h1 => rw [er] at z; exact z
    | ct σ1 h1 => rw [er] at z; exact z
    | bad => rw [er] at z; exact z
    | exc c σ1 h1 =>
      rw [er] at z
      dsimp only at z
      rw [handle] at z
      try dsimp only at z
      intro L1 lam1 σ1' H1 p1
      rw [O.K]
      cases ex : T.exs c d with
      | none => rw [ex] at z; exact z.elim
      | some k =>
        obtain ⟨q1, q2, q3, q4, q5⟩ := B.exs c d k ex
        refine ⟨k, by rw [q1]; exact q5, fun hk a ha => ?_, fun hk => ?_⟩
        · subst hk
          rw [ex] at z
          dsimp only at z
          refine ⟨c, rfl, rfl, L1, lam1, _, h1, p1.setExc i a c, ?_⟩
          cases es : execs T call Wn ss ((noX σ1).set i (.exc c)) h1 with
          | nx σ2 h2 => rw [es] at z; exact fun L2 lam2 σ2' H2 p2 => z L2 lam2 _ H2 (p2.unExc i)
          | bk σ2 h2 => rw [es] at z; exact fun L2 lam2 σ2' H2 p2 => z L2 lam2 _ H2 (p2.unExc i)
          | ct σ2 h2 => rw [es] at z; exact fun L2 lam2 σ2' H2 p2 => z L2 lam2 _ H2 (p2.unExc i)
          | rt v h2 => rw [es] at z; exact z
          | exc c2 σ2 h2 => rw [es] at z; exact z.elim
          | bad => rw [es] at z; exact z.elim
        · subst hk
          rw [ex] at z
          dsimp only at z
          rw [handle] at z
          try dsimp only at z
          exact z L1 lam1 σ1' H1 p1
/-- the clauses without a name -/
def cls (G : Gb) (E : Ent) (T : Tb) (call : Nat → List MV → MH → Res MV) (Wn : Nat) : Hds → List (Value × (Addr → Value → Option Addr → TS))
  | .nil => []
  | .cons d _ ss hs => (.ref (G.ca d), fun _ _ _ => rdS G E (fun _ _ _ _ => False) (execs T call Wn ss)) :: cls G E T call Wn hs
def noAs : Hds → Bool
  | .nil => true
  | .cons _ as _ hs => as.isNone && noAs hs
theorem many_post (O : Ops G X) (B : TbEx G T) {D : Ends} {c : Nat} {σm : ML} {h : MH} : ∀ (hs : Hds), noAs hs = true → (handle T call Wn c hs σm h).SPost G E W D → ∀ L lam σ H, Pt G E L lam σm h σ H → wMany X.K W D (cls G E T call Wn hs) (G.cv c) none σ H
  | .nil, _, z, L, lam, σ, H, p => by
    rw [handle] at z
    try dsimp only at z
    exact z L lam σ H p
  | .cons d as ss hs, na, z, L, lam, σ, H, p => by
    unfold noAs at na
    simp only [Bool.and_eq_true, Option.isNone_iff_eq_none] at na
    obtain ⟨rfl, na⟩ := na
    rw [handle] at z
    try dsimp only at z
    rw [O.K]
    cases ex : T.exs c d with
    | none => rw [ex] at z; exact z.elim
    | some k =>
      obtain ⟨q1, q2, q3, q4, q5⟩ := B.exs c d k ex
      refine ⟨k, by rw [q1]; exact q5, fun hk a ha => ?_, fun hk => ?_⟩
      · subst hk
        rw [ex] at z
        dsimp only at z
        refine ⟨L, lam, σm, h, p, ?_⟩
        cases es : execs T call Wn ss σm h with
        | exc c2 σ2 h2 => rw [es] at z; exact z.elim
        | nx σ2 h2 => rw [es] at z; exact z
        | bk σ2 h2 => rw [es] at z; exact z
        | ct σ2 h2 => rw [es] at z; exact z
        | rt v h2 => rw [es] at z; exact z
        | bad => rw [es] at z; exact z.elim
      · subst hk
        rw [ex] at z
        dsimp only at z
        rw [← O.K]
        exact many_post O B hs na z L lam σ H p
theorem mps_try_many {h₀ : ExceptHandler} {hds : List ExceptHandler} {hs : Hds} (O : Ops G X) (B : TbEx G T) (hst : X.stack = X.env :: X.outer) (hf : X.env.frame = some X.env.locals) (na : noAs hs = true) (tk : Takes X W)
    (hb : ∀ (W : WX) (pn : List (Addr × Obj)) (xe : Value → Shared → Prop), Takes (X.tr pn xe) W → PassesOwn (model X.prog X.w) X.A X.env xe → PSs (X.tr pn xe) body (rdS G E W (execs T call Wn sb)))
    (hh : HdsOk X (h₀ :: hds) (cls G E T call Wn hs)) :
    PS X (.Try body (h₀ :: hds) [] [] pos) (rdS G E W (exec T call Wn (.try sb hs))) := by
  refine (ps_try_many (tb := fun W => rdS G E W (execs T call Wn sb)) hst hf tk hb hh).imp fun D σ H ⟨L, lam, σm, h, p, z⟩ => ?_
  refine ⟨L, lam, σm, h, p, ?_⟩
  rw [exec] at z
  dsimp only at z
  cases er : execs T call Wn sb σm h with
  | nx σ1 h1 => rw [er] at z; exact z
  | rt v h1 => rw [er] at z; exact z
  | bk σ1 h1 => rw [er] at z; exact z
  | ct σ1 h1 => rw [er] at z; exact z
  | bad => rw [er] at z; exact z
  | exc c σ1 h1 =>
    rw [er] at z
    exact many_post O B hs na z
end
end MP
set_option Elab.async false
set_option linter.all false
set_option autoImplicit false
set_option maxRecDepth 100000
set_option maxHeartbeats 4000000
/-! MP, part t4: dicts that are walked: locked while a loop or a comprehension runs; list(d). -/
namespace MP
open PySem PySem.Spec L2
section
variable {G : Gb} {q : Bool} {L L' L2 : Lay} {h h' h2 : MH} {H H' H2 : Hp} {n : Nat} {d : Addr} {o : HO} {c : Ct} {od : Obj}
/-- a cell is locked -/
theorem lock_step (r : HR G L h H) (e : h[n]? = some (.ct c)) (al : L.al n = some d) (rc : CtR G L h.length c o) : Step G false L h H L (h.set n (.lk c)) (upd H d (.frz od o)) :=
  put_cell r e al (.lk rc)
theorem set_at {α : Type} {xs : List α} {i : Nat} {x y : α} (e : xs[i]? = some x) : (xs.set i y)[i]? = some y := List.getElem?_set_self (List.getElem?_eq_some_iff.mp e).1
/-- the layout behind an unlocking -/
theorem unlk_hr (r : HR G L2 h2 H2) (e2 : h2[n]? = some (.lk c)) (al : L2.al n = some d) (hd : H2 d = some (.frz od o)) (rc : CtR G L2 h2.length c o) : HR G L2 (h2.set n (.ct c)) (upd H2 d o) := by
  have hs : ∀ {b : Addr}, (H2 b).isSome = true → ((upd H2 d o) b).isSome = true := fun {b} z => by
    by_cases hb : b = d
    · rw [hb, upd_same]; rfl
    · rw [upd_ne hb]; exact z
  refine ⟨fun b u z => ?_, fun m b z => hs (r.alive m b z), fun m f b z => hs (r.olive m f b z), r.aa, r.oo, r.ao, r.af, r.of, fun m k z => ?_⟩
  · rw [upd_ne (by rintro rfl; have := r.af n _ al; rw [z] at this; cases this)]; exact r.fz b u z
  · by_cases hm : n = m
    · subst hm
      rw [set_at e2] at z
      cases z
      exact ⟨d, o, al, upd_same, .ct (by rw [List.length_set]; exact rc)⟩
    · rw [List.getElem?_set_ne hm] at z
      obtain ⟨b, u, z1, z2, z3⟩ := r.cell m k z
      have hb : b ≠ d := fun w => hm (r.aa n m d al (w ▸ z1))
      refine ⟨b, u, z1, by rw [upd_ne hb]; exact z2, ?_⟩
      rw [List.length_set]
      refine z3.keep .refl (fun _ _ z => z) fun f x y w z => ?_
      rw [upd_ne (fun (q : x = d) => r.ao n m f d al (by rw [← q]; exact w))]; exact z
/-- .. and from an earlier point to there -/
theorem Step.unlk (s : Step G false L h H L2 h2 H2) (e2 : h2[n]? = some (.lk c)) (al : L2.al n = some d) (hd : H2 d = some (.frz od o)) (rc : CtR G L2 h2.length c o) (nl : ∀ k, h[n]? ≠ some (.lk k)) : Step G false L h H L2 (h2.set n (.ct c)) (upd H2 d o) := by
  have hh : Held L2 d := .inl ⟨n, al⟩
  refine ⟨⟨by rw [List.length_set]; exact s.ext.le, fun m a hm z => s.ext.al m a hm z, s.ext.fz⟩, unlk_hr s.hr e2 al hd rc, fun b u z w => ?_, fun b z => ?_, s.new1, s.new2, fun z => Bool.noConfusion z, fun m k z => ?_⟩
  · have hb : b ≠ d := fun y => w (s.new1 b (by rw [z]; rfl) (y ▸ hh))
    rw [upd_ne hb]; exact s.frm b u z w
  · by_cases hb : b = d
    · rw [hb, upd_same]; rfl
    · rw [upd_ne hb]; exact s.dom b z
  · have hm : n ≠ m := by rintro rfl; exact nl k z
    obtain ⟨f1, f2⟩ := s.lk m k z
    refine ⟨by rw [List.getElem?_set_ne hm]; exact f1, fun b al' => ?_⟩
    have hb : b ≠ d := fun w => hm (s.hr.aa n m d al (w ▸ s.ext.al m b (List.getElem?_eq_some_iff.mp z).1 al'))
    rw [upd_ne hb]; exact f2 b al'
/-- from the locking to the unlocking -/
theorem unlock_step (r : HR G L h H) (e : h[n]? = some (.ct c)) (al : L.al n = some d) (hd : H d = some o) (rc : CtR G L h.length c o) (s : Step G q L (h.set n (.lk c)) (upd H d (.frz od o)) L2 h2 H2) :
    h2[n]? = some (.lk c) ∧ L2.al n = some d ∧ H2 d = some (.frz od o) ∧ Step G q L h H L2 (h2.set n (.ct c)) (upd H2 d o) := by
  obtain ⟨e1, e2⟩ := s.lk n c (set_at e)
  have hd2 : H2 d = some (.frz od o) := (e2 d al).trans upd_same
  have hl := (List.getElem?_eq_some_iff.mp e).1
  have al2 : L2.al n = some d := s.ext.al n d (by rw [List.length_set]; exact hl) al
  have ex : Ext h.length L h2.length L2 := ⟨by have := s.ext.le; rwa [List.length_set] at this, fun m a hm z => s.ext.al m a (by rw [List.length_set]; exact hm) z, s.ext.fz⟩
  have hh : Held L d := .inl ⟨n, al⟩
  have up : ∀ {b : Addr} {u : HO}, b ≠ d → H b = some u → upd H d (.frz od o) b = some u := fun hb z => (upd_ne hb).trans z
  have us : ∀ {b : Addr}, (H b).isSome = true → (upd H d (.frz od o) b).isSome = true := fun {b} z => by
    by_cases hb : b = d
    · rw [hb, upd_same]; rfl
    · rw [upd_ne hb]; exact z
  refine ⟨e1, al2, hd2, ⟨⟨by rw [List.length_set]; exact ex.le, fun m a hm z => ex.al m a hm z, ex.fz⟩, unlk_hr s.hr e1 al2 hd2 (rc.mono ex), fun b u z w => ?_, fun b z => ?_, fun b z w => s.new1 b (us z) w, fun b z w => s.new2 b (us z) w, fun hq => ⟨fun b u z => ?_, (s.mon hq).2⟩, fun m k z => ?_⟩⟩
  · have hb : b ≠ d := fun y => w (y ▸ hh)
    rw [upd_ne hb]; exact s.frm b u (up hb z) w
  · by_cases hb : b = d
    · rw [hb, upd_same]; rfl
    · rw [upd_ne hb]; exact s.dom b (us z)
  · by_cases hb : b = d
    · subst hb
      rw [hd] at z; cases z
      exact upd_same
    · rw [upd_ne hb]; exact (s.mon hq).1 b u (up hb z)
  · have hm : n ≠ m := by rintro rfl; rw [e] at z; cases z
    obtain ⟨f1, f2⟩ := s.lk m k (by rw [List.getElem?_set_ne hm]; exact z)
    refine ⟨by rw [List.getElem?_set_ne hm]; exact f1, fun b al' => ?_⟩
    have hb : b ≠ d := fun w => hm (r.aa n m d al (w ▸ al'))
    rw [upd_ne hb, f2 b al', upd_ne hb]
end
/-- what is kept in mind of a locked dict -/
def lkp (n : Nat) (d : Addr) (od : Obj) (ks : List Key) (vs : List MV) (ys : List V) : Kp := ⟨[], [], [(n, d, .frz od (.dK (ks.zip ys)), .dK ks vs)]⟩
section
variable {G : Gb} {q : Bool} {L : Lay} {h : MH} {H : Hp} {n : Nat} {d : Addr} {od : Obj} {ks : List Key} {vs : List MV} {ys : List V}
theorem lkp_at (e : h[n]? = some (.lk (.dK ks vs))) (al : L.al n = some d) (hd : H d = some (.frz od (.dK (ks.zip ys)))) : (lkp n d od ks vs ys).at G L h H :=
  ⟨.nil, fun m a o c z => by cases z with | head => exact ⟨al, hd, e⟩ | tail _ z => cases z⟩
theorem lkp_of (z : (lkp n d od ks vs ys).at G L h H) : L.al n = some d ∧ H d = some (.frz od (.dK (ks.zip ys))) ∧ h[n]? = some (.lk (.dK ks vs)) := z.2 n d _ _ (List.Mem.head _)
theorem keyMV_vr {b : Nat} (k : Key) : VR G L b (keyMV k) (kV k) := by cases k <;> first | exact .int _ | exact .str _
theorem keys_vrs {b : Nat} : ∀ ks : List Key, VRs G L b (ks.map keyMV) (ks.map kV)
  | [] => .nil
  | k :: ks => .cons (keyMV_vr k) (keys_vrs ks)
theorem zip_at {ys : List V} {i : Nat} {k : Key} (hl : ks.length = ys.length) (e : ks[i]? = some k) : ∃ y, ys[i]? = some y ∧ (ks.zip ys)[i]? = some (k, y) := by
  have hi := (List.getElem?_eq_some_iff.mp e).1
  exact ⟨ys[i], List.getElem?_eq_getElem (by omega), List.getElem?_zip_eq_some.mpr ⟨e, List.getElem?_eq_getElem (by omega)⟩⟩
/-- the locked dict, in full -/
theorem lk_look (r : HR G L h H) (z : (lkp n d od ks vs ys).at G L h H) (hl : ks.length = ys.length) : H d = some (.frz od (.dK (ks.zip ys))) ∧ VRs G L h.length vs ys := by
  obtain ⟨al, hd, e⟩ := lkp_of z
  refine ⟨hd, ?_⟩
  obtain ⟨a, o, e1, e2, e3⟩ := r.cell n _ e
  rw [al] at e1; cases e1
  cases e3 with
  | lk rc =>
    rw [hd] at e2
    generalize hx : HO.dK (ks.zip ys) = ox at e2
    cases e2
    cases rc with
    | dK l rv =>
      rename_i ys'
      have e4 : ks.zip ys = ks.zip ys' := by injection hx
      have : ys = ys' := by
        have z1 := congrArg (List.map Prod.snd) e4
        rwa [List.map_snd_zip (by omega), List.map_snd_zip (by omega)] at z1
      rw [this]; exact rv
theorem it_lkeys (hl : ks.length = ys.length) : ItOk G (lkp n d od ks vs ys) (itemsK false ks vs) none (Itk d od (ks.zip ys)) := by
  have e0 : itemsK false ks vs = ks.map keyMV := rfl
  rw [e0]
  refine ⟨fun L h H k r _ => ⟨(lk_look r k hl).1, by rw [List.length_zip, List.length_map]; omega⟩, fun i y L h H e k r _ => ?_⟩
  rw [List.getElem?_map] at e
  obtain ⟨k0, ek, rfl⟩ := Option.map_eq_some_iff.mp e
  obtain ⟨y, e1, e2⟩ := zip_at hl ek
  refine ⟨⟨(lk_look r k hl).1, (List.getElem?_eq_some_iff.mp e2).1⟩, fun x H' yy => ?_⟩
  obtain ⟨rfl, k1, v1, e3, rfl⟩ := yy
  rw [e2] at e3; cases e3
  exact ⟨L, .refl r, keyMV_vr _⟩
theorem it_litems (hl : ks.length = ys.length) : ItOk G (lkp n d od ks vs ys) (itemsK true ks vs) none (Iti d od (ks.zip ys)) := by
  have e0 : itemsK true ks vs = (ks.zip vs).map fun p => .tup [keyMV p.1, p.2] := rfl
  rw [e0]
  refine ⟨fun L h H k r _ => ?_, fun i y L h H e k r _ => ?_⟩
  · obtain ⟨hd, rv⟩ := lk_look r k hl
    have := rv.length
    exact ⟨hd, by rw [List.length_zip, List.length_map, List.length_zip]; omega⟩
  · obtain ⟨hd, rv⟩ := lk_look r k hl
    rw [List.getElem?_map] at e
    obtain ⟨⟨k0, v0⟩, ek, rfl⟩ := Option.map_eq_some_iff.mp e
    obtain ⟨f1, f2⟩ := List.getElem?_zip_eq_some.mp ek
    obtain ⟨y, e1, e2⟩ := zip_at hl f1
    obtain ⟨u, g1, g2⟩ := rv.get f2
    rw [e1] at g1; cases g1
    refine ⟨⟨hd, (List.getElem?_eq_some_iff.mp e2).1⟩, fun x H' yy => ?_⟩
    obtain ⟨Tt, k1, v1, e3, rfl, hT, rfl⟩ := yy
    rw [e2] at e3; cases e3
    have s := step_fz (G := G) true r hT (o := .tup [kV k0, y])
    exact ⟨_, s, .tup (.inl addF_at) (.cons (keyMV_vr _) (.cons (s.vr g2) .nil))⟩
end
/-- how a dict's walk is read at a point where it is locked -/
def KI (G : Gb) (E : Ent) (q : Bool) (dn : ML → MH → Option Nat) (its : Bool) (wi : TI) : Prop := ∀ L lam σm h σ H n ks vs R, Pt G E L lam σm h σ H → dn σm h = some n → h[n]? = some (.lk (.dK ks vs)) →
  (∀ L' H' J kk, Step G q L h H L' h H' → Kp.at kk G L' h H' → ItOk G kk (itemsK its ks vs) none J → R J H') → wi σ H R
theorem refAt_ok {r : Res EV} {h : MH} {n : Nat} (e : refAt r h = some n) : r = .ok (.v (.ref n)) h := by
  unfold refAt at e
  split at e
  · split at e
    · rename_i hh; cases e; rw [hh]
    · cases e
  · cases e
section
variable {T : Tb} {call : Nat → List MV → MH → Res MV} {Wn : Nat} {G : Gb} {E : Ent} {W : WX} {X : Cx} {q qa qb qc : Bool} {pos p2 p apos : Pos} {a b e tg iter : Expr} {ea eb ee : Ex} {x : Str}
/-- the locked dict's object -/
theorem lk_obj {L : Lay} {h : MH} {H : Hp} {n : Nat} {ks : List Key} {vs : List MV} (r : HR G L h H) (e : h[n]? = some (.lk (.dK ks vs))) : ∃ d od ys, L.al n = some d ∧ H d = some (.frz od (.dK (ks.zip ys))) ∧ ks.length = ys.length := by
  obtain ⟨a, o, e1, e2, e3⟩ := r.cell n _ e
  cases e3 with
  | lk rc => cases rc with
    | dK l rv => exact ⟨a, _, _, e1, e2, l⟩
theorem ki_core {t : TI} {f : V → Hp → (It → Hp → Prop) → Prop} {its : Bool} {mk : Addr → Obj → List (Key × V) → It} (dn : ML → MH → Option Nat) (hdn : ∀ σ h n, dn σ h = some n → refAt (den T call ea σ h) h = some n) (ht : ∀ σ H R, rd G E W q (den T call ea) σ H (fun x H1 => f x H1 R) → t σ H R)
    (hf : ∀ d od kvs H R, H d = some (.frz od (.dK kvs)) → R (mk d od kvs) H → f (.ref d) H R)
    (hi : ∀ {n d od ks vs ys}, List.length ks = List.length ys → ItOk G (lkp n d od ks vs ys) (itemsK its ks vs) none (mk d od (ks.zip ys))) : KI G E q dn its t := by
  intro L lam σm h σ H n ks vs R p en el k
  refine ht σ H R ⟨L, lam, σm, h, p, ?_⟩
  rw [refAt_ok (hdn _ _ _ en)]
  intro L' H' x s r
  obtain ⟨d, od, ys, al, hd, hl⟩ := lk_obj s.hr el
  cases (show VR G L' h.length (.ref n) x from r) with
  | ref hn al' =>
    rw [al] at al'; cases al'
    exact hf _ _ _ _ _ hd (k L' H' _ _ s (lkp_at el al hd) (hi hl))
theorem ki_keys : KI G E q (denK T call (.keys ea)) false (iKeys (rd G E W q (den T call ea))) :=
  ki_core (mk := Itk) _ (fun σ h n e => by rw [denK] at e; exact e) (fun σ H R z => z) (fun d od kvs H R e r => ⟨d, od, rfl, .inl ⟨kvs, e, r⟩⟩) fun hl => it_lkeys hl
theorem ki_items : KI G E q (denK T call (.items ea)) true (iItems (rd G E W q (den T call ea))) :=
  ki_core (mk := Iti) _ (fun σ h n e => by rw [denK] at e; exact e) (fun σ H R z => z) (fun d od kvs H R e r => ⟨d, od, kvs, rfl, e, r⟩) fun hl => it_litems hl
/-- a point, where a locked cell is let go -/
theorem Pt.unlk {L : Lay} {lam lam0 : Nat → Option Addr} {σm σ0 : ML} {h h0 : MH} {σ s0 : L2.St} {H H0 : Hp} {L0 : Lay} {n : Nat} {d : Addr} {od : Obj} {ks : List Key} {vs : List MV} {ys : List V} (p0 : Pt G E L0 lam0 σ0 h0 s0 H0) (e0 : h0[n]? = some (.ct (.dK ks vs))) (hl : ks.length = ys.length)
    (p : Pt G (E.pin (lkp n d od ks vs ys)) L lam σm h σ H) : h[n]? = some (.lk (.dK ks vs)) ∧ H d = some (.frz od (.dK (ks.zip ys))) ∧ Pt G E L lam σm (h.set n (.ct (.dK ks vs))) σ (upd H d (.dK (ks.zip ys))) := by
  obtain ⟨p1, k⟩ := p.unpin
  obtain ⟨al, hd, el⟩ := lkp_of k
  have rv := (lk_look p.hr k hl).2
  have nl : ∀ c, E.h[n]? ≠ some (.lk c) := fun c z => by
    have := (p0.stp.lk n c z).1
    rw [e0] at this; cases this
  refine ⟨el, hd, p1.stp.unlk el al hd (.dK hl rv) nl, ⟨p1.sr.len, fun i v x e1 e2 => ?_, p1.sr.inj⟩, p1.new, fun k e => ?_⟩
  · have q := p1.sr.slot i v x e1 e2
    rw [List.length_set]
    cases v with
    | own c =>
      obtain ⟨a, u, q1, q2, q3, q4, q5, q6⟩ := q
      have ha : a ≠ d := fun w => q5 (.inl ⟨n, w ▸ al⟩)
      exact ⟨a, u, q1, q2, by rw [upd_ne ha]; exact q3, q4, q5, q6⟩
    | un => trivial
    | val v => exact q
    | exc c => exact q
  · refine ⟨by rw [List.length_set]; exact (p1.pin k e).1, fun m b o c z => ?_⟩
    obtain ⟨z1, z2, z3⟩ := (p1.pin k e).2 m b o c z
    have hm : n ≠ m := by
      rintro rfl
      have := ((p0.pin k e).2 n b o c z).2.2
      rw [e0] at this; cases this
    exact ⟨z1, by rw [upd_ne (fun (w : b = d) => hm (p.hr.aa n m d al (w ▸ z1)))]; exact z2, by rw [List.getElem?_set_ne hm]; exact z3⟩
theorem forK_inv {t : Tg} {d : Dw} {b : Sxs} {σ : ML} {h : MH} {E : Ent} {W : WX} {D : Ends} (z : (exec T call Wn (.forK t d b) σ h).SPost G E W D) :
    ∃ n ks vs, denK T call d σ h = some n ∧ h[n]? = some (.ct (.dK ks vs)) ∧ denK T call d σ (h.set n (.lk (.dK ks vs))) = some n ∧
      (unlS n (.dK ks vs) (forL t none (itemsK d.its ks vs) (execs T call Wn b) (itemsK d.its ks vs) σ (h.set n (.lk (.dK ks vs))))).SPost G E W D := by
  rw [exec] at z
  dsimp only at z
  cases e1 : denK T call d σ h with
  | none => rw [e1] at z; exact z.elim
  | some n =>
    rw [e1] at z
    dsimp only at z
    split at z
    · rename_i ks vs e2
      obtain ⟨e3, z⟩ := post_sif z
      exact ⟨n, ks, vs, rfl, e2, e3, z⟩
    · exact z.elim
/-- for x in d -/
theorem mps_forK (O : Ops G X) (cm : X.calm = true) (hp : PassesOwn (model X.prog X.w) X.A X.env X.xe) {body : List Stmt} {t : Tg} {d : Dw} {sb : Sxs} {wi : TI} (hi : PI X tg iter wi) (hk : KI G E q (denK T call d) d.its wi) (oki : okE iter = true) (hg : ∀ E, PG X tg (rdG G E t))
    (hb : ∀ k1 k2, PSs X body (rdS G ((E.pin k1).pin k2) W (execs T call Wn sb))) : PS X (.For tg iter body [] pos) (rdS G E W (exec T call Wn (.forK t d sb))) := by
  have hg2 : PG X tg (fun x σ H Q => ∃ k1, rdGp G (E.pin k1) t x σ H Q) := ⟨fun pins s σ H y w Q I r ⟨k1, z⟩ => (mpg_pinned (E := E.pin k1) hg).run pins s σ H y w Q I r z⟩
  have hb2 : PSs X body (fun D σ H => ∃ k1, rdP G (E.pin k1) W (execs T call Wn sb) D σ H) := ⟨fun pins s σ H D I ⟨k1, z⟩ => (mps_pinned (E := E.pin k1) (hb k1)).run pins s σ H D I z⟩
  refine (ps_lock (ps_for hp cm hi hg2 hb2 (fold_of oki X.env))).imp fun D σ H ⟨L, lam, σm, h, p, z⟩ => ?_
  obtain ⟨n, ks, vs, e1, e2, e3, z⟩ := forK_inv z
  obtain ⟨ad, o, al, hd, rc⟩ := p.hr.cell n _ e2
  cases rc with
  | ct rc =>
    cases rc with
    | dK hl rv =>
      rename_i ys
      refine ⟨ad, _, hd, trivial, fun od => ?_⟩
      have ls := lock_step (od := od) p.hr e2 al (.dK hl rv)
      have pl := p.step ls
      refine hk L lam σm _ σ _ n ks vs _ pl e3 (set_at e2) fun L' H' J kk s k0 J0 => ?_
      obtain ⟨x1, x2⟩ := s.lk n _ (set_at e2)
      have kl : (lkp n ad od ks vs ys).at G L' (h.set n (.lk (.dK ks vs))) H' := lkp_at (set_at e2) (s.ext.al n ad (by rw [List.length_set]; exact (List.getElem?_eq_some_iff.mp e2).1) al) ((x2 ad al).trans upd_same)
      have fc := for_core (T := T) (call := call) (Wn := Wn) (W := W) (t := t) (sb := sb) (iw := (itemsK d.its ks vs, none)) (D := ⟨fun σ' H' => H' ad = some (.frz od (.dK (ks.zip ys))) ∧ D.nx σ' (upd H' ad (.dK (ks.zip ys))), fun v H' => H' ad = some (.frz od (.dK (ks.zip ys))) ∧ D.rt v (upd H' ad (.dK (ks.zip ys))),
        fun σ' H' => H' ad = some (.frz od (.dK (ks.zip ys))) ∧ D.bk σ' (upd H' ad (.dK (ks.zip ys))), fun σ' H' => H' ad = some (.frz od (.dK (ks.zip ys))) ∧ D.ct σ' (upd H' ad (.dK (ks.zip ys)))⟩) ((pl.step s).pinned kl) rfl k0 J0 ?_
      · obtain ⟨Wv, w0, wt⟩ := fc
        refine ⟨Wv, w0, fun i m σ' H' w => ?_⟩
        rcases wt i m σ' H' w with y | ⟨go, N, hn, y⟩
        · exact .inl y
        · exact .inr ⟨go, N, hn, fun x H2 yy => ⟨_, (show ∀ {A B : L2.St → Hp → Prop} {v s H} (_ : ∀ σ H, A σ H → B σ H), rdGp G (E.pin (lkp n ad od ks vs ys)) t v s H A → rdGp G (E.pin (lkp n ad od ks vs ys)) t v s H B from fun hab ⟨kk, L, lam, σm, h, mv, σm', p, r, e, f⟩ => ⟨kk, L, lam, σm, h, mv, σm', p, r, e, fun σ' a b c => hab _ _ (f σ' a b c)⟩) (fun σ H z => ⟨_, z⟩) (y x H2 yy)⟩⟩
      · cases er : forL t none (itemsK d.its ks vs) (execs T call Wn sb) (itemsK d.its ks vs) σm (h.set n (.lk (.dK ks vs))) with
        | nx σ1 h1 =>
          rw [er] at z
          obtain ⟨_, z⟩ := post_sif z
          intro L2 lam2 σ2 H2 p2
          obtain ⟨_, y2, y3⟩ := Pt.unlk p e2 hl p2
          exact ⟨y2, z L2 lam2 σ2 _ y3⟩
        | rt v h1 =>
          rw [er] at z
          obtain ⟨_, z⟩ := post_sif z
          intro L2 H2 x s2 pk r2
          obtain ⟨al2, hd2, el2⟩ := lkp_of (pk _ (.inr rfl))
          have rv2 := (lk_look s2.hr (pk _ (.inr rfl)) hl).2
          have nl : ∀ c, E.h[n]? ≠ some (.lk c) := fun c z => by
            have := (p.stp.lk n c z).1
            rw [e2] at this; cases this
          refine ⟨hd2, z L2 _ x (Step.unlk s2 el2 al2 hd2 (.dK hl rv2) nl) (fun k e => ⟨by rw [List.length_set]; exact (pk k (.inl e)).1, fun m b o c zm => ?_⟩) (by rw [List.length_set]; exact r2)⟩
          obtain ⟨z1, z2, z3⟩ := (pk k (.inl e)).2 m b o c zm
          have hm : n ≠ m := by
            rintro rfl
            have := ((p.pin k e).2 n b o c zm).2.2
            rw [e2] at this; cases this
          exact ⟨z1, by rw [upd_ne (fun (w : b = ad) => hm (s2.hr.aa n m ad al2 (w ▸ z1)))]; exact z2, by rw [List.getElem?_set_ne hm]; exact z3⟩
        | bk σ1 h1 => rw [er] at z; exact z.elim
        | ct σ1 h1 => rw [er] at z; exact z.elim
        | exc c σ1 h1 => rw [er] at z; exact z.elim
        | bad => rw [er] at z; exact z.elim
theorem compK_imp {t : Tg} {d : Dw} {cc : Exo} {ee : Ex} {wi : TI} {vs : List Nat} (hk : KI G E qa (denK T call d) d.its wi) (ho : vs = t.own) (ia : q = true → qa = true) (ib : q = true → qb = true) (ic : q = true → qc = true) {σ : L2.St} {H : Hp} {Q : VK}
    (z : rdF G E W q (denF T call (.compK t d cc ee)) σ H Q) : tLockE (tLc wi (rdG G E t) (rdC G E qb (denC T call cc)) (rd G E (fun _ _ _ _ => False) qc (den T call ee)) vs) σ H Q := by
  obtain ⟨L, lam, σm, h, p, z⟩ := z
  rw [denF] at z
  dsimp only at z
  cases e1 : denK T call d σm h with
  | none => rw [e1] at z; exact z.elim
  | some n =>
    rw [e1] at z
    dsimp only at z
    split at z
    · rename_i ks vs e2
      obtain ⟨e3, z⟩ := post_if z
      obtain ⟨ad, o, al, hd, rc⟩ := p.hr.cell n _ e2
      cases rc with
      | ct rc =>
        cases rc with
        | dK hl rv =>
          rename_i ys
          refine ⟨ad, _, hd, trivial, fun od => ?_⟩
          have ls := lock_step (od := od) p.hr e2 al (.dK hl rv)
          have pl := p.step ls
          refine hk L lam σm _ σ _ n ks vs _ pl e3 (set_at e2) fun L' H' J kk s k0 J0 => ?_
          refine lc_body (q := q) (qa := qa) (qb := qb) (qc := qc) (iw := (itemsK d.its ks vs, none)) (Z := fun _ _ => False) (Q := fun v H' => H' ad = some (.frz od (.dK (ks.zip ys))) ∧ Q v (upd H' ad (.dK (ks.zip ys)))) ho ia ib ic pl s rfl k0 J0 ?_
          unfold unlF at z
          cases er : compL (denC T call cc) (fun σ h => (den T call ee σ h).vl) t none (itemsK d.its ks vs) (wipeM σm t.own) (itemsK d.its ks vs) [] (h.set n (.lk (.dK ks vs))) with
          | bad => rw [er] at z; exact z.elim
          | exc c h1 =>
            -- no exception leaves
            exfalso
            have no : ∀ (rs acc : List MV) (h : MH) (c : Nat) (h1 : MH), compL (denC T call cc) (fun σ h => (den T call ee σ h).vl) t none (itemsK d.its ks vs) (wipeM σm t.own) rs acc h ≠ .exc c h1 := by
              intro rs
              induction rs with
              | nil => intro acc h c h1 z; unfold compL at z; cases z
              | cons v rs ih =>
                intro acc h c h1 z
                unfold compL at z
                split at z
                · cases z
                · split at z
                  · split at z
                    · split at z
                      · exact ih _ _ _ _ z
                      · cases z
                    · cases z
                  · split at z
                    · exact ih _ _ _ _ z
                    · cases z
                  · cases z
            exact no _ _ _ _ _ er
          | ok xs h1 =>
            rw [er] at z
            obtain ⟨_, z⟩ := post_if z
            intro L2 H2 pp op s2 f1 f2 f3 f4 f5
            obtain ⟨g1, g2, g3, g4⟩ := unlock_step p.hr e2 al hd (.dK hl rv) s2
            have hpa : pp ≠ ad := fun w => by rw [w, upd_same] at f2; cases f2
            refine ⟨g3, z L2 _ pp op g4 (by rw [upd_ne hpa]; exact f1) (by rw [upd_ne hpa] at f2; exact f2) f3 f4 (by rw [List.length_set]; exact f5)⟩
    · exact z.elim
/-- [e for x in d] -/
theorem mpf_compK (O : Ops G X) (cm : X.calm = true) (hN : X.N.Nodup) {elt : Expr} {ifs : List Expr} {scope : Scope} {own : List (Str × Nat)} {t : Tg} {d : Dw} {cc : Exo} {ee : Ex} {wi : TI} (hi : PI X tg iter wi) (hk : KI G E qa (denK T call d) d.its wi) (oki : okE iter = true) (ok : BlkOk X.N X.env.scope scope own) (ho : own.map (·.2) = t.own)
    (hg : ∀ (s : Shared) (H : Hp) (C : Addr) (cl : List (Str × Addr)) (fp : List Addr), PG (X.blk s H scope (compEnvC scope cl C X.env) fp) tg (rdG G E t))
    (ht : ∀ (s : Shared) (H : Hp) (C : Addr) (cl : List (Str × Addr)) (fp : List Addr), PTs (X.blk s H scope (compEnvC scope cl C X.env) fp) ifs (rdC G E qb (denC T call cc)))
    (he : ∀ (s : Shared) (H : Hp) (C : Addr) (cl : List (Str × Addr)) (fp : List Addr), PE (X.blk s H scope (compEnvC scope cl C X.env) fp) elt (rd G E (fun _ _ _ _ => False) qc (den T call ee)))
    (ia : q = true → qa = true) (ib : q = true → qb = true) (ic : q = true → qc = true) : PE X (.ListComp elt [⟨tg, iter, ifs, 0⟩] scope pos) (rdF G E W q (denF T call (.compK t d cc ee))) := by
  exact (pe_lock (pe_lc cm hN hi ok hg ht he (fold_of oki X.env))).imp fun σ H Q z => compK_imp hk ho ia ib ic z
/-- list(d) -/
theorem mpf_listD (O : Ops G X) (cm : X.calm = true) (ex : x = "list") (hg : Gl X x) (hm : X.mg x = none) (oka : okE a = true) (ha : PE X a (rd G E W q (den T call ea))) : PE X (.Call (.Name x p) [a] [] pos) (rdF G E W q (denF T call (.listD ea))) := by
  subst ex
  have hA : PA X [a] (tCons (rd G E W q (den T call ea)) tNil) := pa_cons ha pa_nil (star_of oka [] X.env)
  refine (pe_callTy (call_list_dK cm) hg hm PyProof.Rows.boot_list hA (by decide) (by decide) (star_of oka [] X.env) rfl).imp fun σ H Q ⟨L, lam, σm, h, p, z⟩ => ?_
  rw [denF] at z
  dsimp only at z
  refine rd_seq p z fun x h1 L1 H1 u e1 s1 r1 z1 => ?_
  cases hx : ctOf x h1 with
  | none => rw [hx] at z1; exact z1.elim
  | some c =>
    rw [hx] at z1
    cases c with
    | lst xs => exact z1.elim
    | dT ks vs => exact z1.elim
    | dK ks vs =>
      obtain ⟨a1, o, rfl, h3, rc⟩ := ct_of s1.hr r1 hx
      cases rc with
      | dK l rv =>
        rename_i ys
        refine ⟨a1, _, rfl, h3, fun r hr => ?_⟩
        have e : (ks.zip ys).map (fun kv => kV kv.1) = ks.map kV := by
          rw [show (fun kv : Key × V => kV kv.1) = kV ∘ Prod.fst from rfl, ← List.map_map, List.map_fst_zip (by omega)]
        rw [e]
        exact new_ct s1 (.lst (keys_vrs ks)) hr z1
end
end MP
set_option Elab.async false
set_option linter.all false
set_option autoImplicit false
set_option maxRecDepth 100000
set_option maxHeartbeats 4000000
/-! MP, part t5: objects with an own __iter__ that hands out the iterator of a field. -/
namespace MP
open PySem PySem.Spec L2
/-- the kinds of things whose iterator is handed out -/
inductive Wd where
  | lst | tup
  | dct (od : Obj) (kvs : List (Key × V))
def epOf (o : Obj) : Nat := match o.data with
  | .dict _ ep => ep
  | _ => 0
def Wd.J (K : PySem.W.Frag) (d : Addr) : Wd → It
  | .lst => Itl K d
  | .tup => Itt K d
  | .dct od kvs => Itk d od kvs
def Wd.mk (d : Addr) : Wd → Addr → Nat → Heap → Prop
  | .lst => fun it i h => h.IsListIter it d i
  | .tup => fun it i h => h.IsTupleIter it d i
  | .dct od kvs => fun it i h => h.IsKeyIter it d i kvs.length (epOf od)
def Wd.at (K : PySem.W.Frag) (H : Hp) (d : Addr) : Wd → Prop
  | .lst => ∃ xs, SqL K H d xs
  | .tup => ∃ xs, SqT K H d xs
  | .dct od kvs => H d = some (.frz od (.dK kvs))
/-- a young iterator -/
def ItW (wd : Wd) (d it : Addr) : HO := .ext (wd.mk d it 0)
section
variable {X : Cx} {pins : List (Addr × Obj)} {σ : L2.St} {H : Hp} {s : Shared} {d it : Addr} {wd : Wd}
theorem Wd.turn {tg : Expr} (I : Inv X pins σ H s) (ha : wd.at X.K H d) (it : Addr) : Turn X.prog X.w X.K tg (wd.J X.K d) [it] it (wd.mk d it) := by
  cases wd with
  | lst => exact turn_list d it
  | tup => exact turn_tuple d it
  | dct od kvs =>
    obtain ⟨_, _, _, es, ep, vs, hdt, _⟩ := I.frzK ha
    have e : epOf od = ep := by unfold epOf; rw [hdt]
    show Turn X.prog X.w X.K tg (Itk d od kvs) [it] it (fun i h => h.IsKeyIter it d i kvs.length (epOf od))
    rw [e]
    exact turn_keys it hdt
/-- the iterator is laid -/
theorem Wd.lay {A : Around} {E : Value → Shared → Prop} {Q : Value → Shared → Prop} (I : Inv X pins σ H s) (ha : wd.at X.K H d) (k : ∀ o : Obj, (s.heap.push o).get? s.heap.objs.size = some o → wd.mk d s.heap.objs.size 0 (s.heap.push o) → Q (.ref s.heap.objs.size) { s with heap := s.heap.push o }) :
    wpAny (model X.prog X.w) A (pyIter (.ref d)) Q E s := by
  cases wd with
  | lst =>
    obtain ⟨xs, hq⟩ := ha
    obtain ⟨its, rv, p, hz⟩ := I.list hq
    exact wpAny_pyIter_list p.isList (k _ (Heap.get?_push_size _ rfl) ⟨_, Heap.get?_push_size _ rfl, rfl, rfl⟩)
  | tup =>
    obtain ⟨xs, hq⟩ := ha
    obtain ⟨its, rv, p, hz⟩ := I.tuple hq
    exact wpAny_pyIter_tuple (show s.heap.IsTuple d its.toArray from p) (k _ (Heap.get?_push_size _ rfl) ⟨_, Heap.get?_push_size _ rfl, rfl, rfl⟩)
  | dct od kvs =>
    obtain ⟨hs, hgd, hx, es, ep, vs, hdt, hsz, _⟩ := I.frzK ha
    have e : epOf od = ep := by unfold epOf; rw [hdt]
    refine iter_keys hs hgd hx hdt (k _ (Heap.get?_push_size _ rfl) ⟨_, Heap.get?_push_size _ rfl, rfl, ?_⟩)
    rw [hsz, e]; rfl
/-- it may be asked for the next item -/
theorem Wd.next {A : Around} {E : Value → Shared → Prop} {Q : Value → Shared → Prop} (m : wd.mk d it 0 s.heap) (q : Q (.ref it) s) : PySem.W.OwitIt (model X.prog X.w) A Q E (.ref it) s := by
  unfold PySem.W.OwitIt
  cases wd with
  | lst => exact wpAny_specialOf (Heap.IsListIter.typeIs m) slot_listiter_next.lookup q
  | tup => exact wpAny_specialOf (Heap.IsTupleIter.typeIs m) PySem.F.slot_tuple_iterator_next.lookup q
  | dct od kvs => exact wpAny_specialOf (Heap.IsKeyIter.typeIs m) PySem.F.slot_dict_keyiterator_next.lookup q
theorem Wd.self {tg : Expr} {A : Around} {E : Value → Shared → Prop} {Q : Value → Shared → Prop} (I : Inv X pins σ H s) (ha : wd.at X.K H d) (m : wd.mk d it 0 s.heap) (q : Q (.ref it) s) : wpAny (model X.prog X.w) A (pyIter (.ref it)) Q E s :=
  (Wd.turn (tg := tg) I ha it).self A 0 s Q E m q
theorem itW_ok (tn : Turn X.prog X.w X.K (.Constant .none 0 ⟨0, 0, 0, 0⟩) (wd.J X.K d) [it] it (wd.mk d it)) {H' : Hp} {h : Heap} (m : wd.mk d it 0 h) {o : Obj} (e : h.get? it = some o) : ObjOk X.prog X.w H' h it (ItW wd d it) :=
  ⟨m, ⟨o, e⟩, fun h1 h2 q k => tn.keep 0 h1 h2 q fun b hb o => by
    have eb : b = it := by simpa using hb
    rw [eb]; exact k o⟩
/-- iter(x) -/
def rIterW (K : PySem.W.Frag) (n : Nat) : List V → Hp → VK → Prop := fun xs H Q => ∃ (d : Addr) (wd : Wd), xs = [.ref d] ∧ wd.at K H d ∧ ∀ it, H it = none → n ≤ it → Q (.ref it) (upd H it (ItW wd d it))
theorem call_iterW : CallR X (.builtin "iter") (rIterW X.K X.s_0.heap.objs.size) := by
  intro pins s σ H xs us Q I r h
  obtain ⟨d, wd, rfl, ha, q⟩ := h
  obtain ⟨u, rfl, ru⟩ := vals1 r
  cases ru
  refine Calls.call_function_entry (by decide +kernel) (by decide +kernel) PySem.W.kdk_entry_iter (PySem.W.kdk_args_iter _) ?_
  unfold Builtin.«iter»
  have one : someArgs "iter" 1 2 ⟨[Value.ref d], []⟩ = pure [Value.ref d] := by first | rfl | kernel_rfl!
  refine wpAny_bind (m := someArgs _ _ _ _) (wpAny_of_eq one ?_)
  show wpAny _ _ (pyIter (.ref d) >>= _) _ _ _
  refine wpAny_bind (Wd.lay I ha fun o eo m => ?_)
  refine wpAny_pure ⟨_, rfl, ?_⟩
  have I' := I.laid (t' := s.toks) (o := ItW wd d s.heap.objs.size) (h' := s.heap.push o) (fun b u e => Heap.get?_push_of_some _ e) (Nat.le_refl _) (itW_ok (Wd.turn I ha _) m eo)
  exact ⟨.ref s.heap.objs.size, _, I', rfl, q _ (I.hok.fresh (Nat.le_refl _)) I.sz⟩
end
/-- the text of such an __iter__ -/
def iterTxt (F : Str) (fd : FuncData) : Bool := match fd.body with
  | .stmts [.Return (some (.Call (.Name g _) [.Attribute (.Name sf _) F' _] [] _)) _] => decide (g = "iter") && (decide (sf = "self") && (decide (F' = F) && decide (fd.scope.names.lookup g = some .globalImplicit)))
  | _ => false
/-- the def at f hands out the iterator of the field F of its object -/
structure ItFn (K : PySem.W.Frag) (mg : Str → Option Value) (C f : Addr) (F : Str) : Prop where
  cl : Cls K C
  na : NoAttr K C F
  at_ : PySem.W.findIn K (.ref C) "__iter__" = some (some (.ref f))
  isf : PySem.W.isFn K (.ref f) = true
  mi : mg "iter" = none
  def_ : ∃ oc od osl name qual params body scope dV kV doc pm an cdv ct, K.lookup f = some ⟨oc, od, .func (PySem.W.fnOf name qual params body scope dV kV doc pm an cdv ct), osl⟩ ∧ PySem.W.codeIn K cdv qual = true ∧ FnScope ["self"] ["self"] scope ∧
    Binds K (PySem.W.fnOf name qual params body scope dV kV doc pm an cdv ct) ["self"] [] ∧
    ∃ p1 p2 p3 p4 p5, body = [.Return (some (.Call (.Name "iter" p1) [.Attribute (.Name "self" p2) F p3] [] p4)) p5] ∧ scope.names.lookup ("iter" : Str) = some .globalImplicit
section
variable {X : Cx} {C f : Addr} {F : Str}
/-- what it answers: a young iterator -/
theorem iter_run {A : Around} {outer : List Env} {s : Shared} {H : Hp} {a dx d : Addr} {fs : List (Str × V)} {wd : Wd} {P : Program} {w : World} {K : PySem.W.Frag} {mg : Str → Option Value} {base : Heap} (it : ItFn K mg C f F) {kr : Nat} (hr : Room kr A) (e0 : Env0 P w K mg base A outer s H)
    (ea : H a = some (.ins C dx fs)) (l : fs.lookup F = some (.ref d)) (hw : wd.at K H d) :
    codeAny (model P w) A (.call (.ref f) ⟨[.ref a], []⟩) (fun r s' => ∃ y, r = .ok (.ret (.ref y)) ∧ s.heap.objs.size ≤ y ∧ CE outer P w H s (fun v H' => v = .ref y ∧ H' = upd H y (ItW wd d y)) (.ref y) s') s := by
  obtain ⟨oc, od, osl, name, qual, params, body, scope, dV, kV, doc, pm, an, cdv, ct, lk, hcd, S, hb, p1, p2, p3, p4, p5, rfl, gi⟩ := it.def_
  have KX : K.In s.heap := e0.mod.kin.keeps fun b o e => (e0.bs b o e).1
  have self0 : scope.names.lookup ("self" : Str) = some .local ∨ scope.names.lookup ("self" : Str) = some .cell := S.par "self" (List.Mem.head _)
  have two : ∀ y ∈ ([(("self" : Str), Value.ref a)] : List (Str × Value)), scope.names.lookup y.1 = some .local ∨ (scope.names.lookup y.1 = some .cell ∧ ((cellsFrom (s.heap.objs.size + 1) scope.names []).lookup y.1).isSome = true) := fun y hy => by
    have ey : y = (("self" : Str), Value.ref a) := by simpa using hy
    subst ey
    exact self0.imp id fun q => ⟨q, PySem.W.cellsFrom_some _ _ _ (.inl q)⟩
  have bd := hb s [.ref a] KX rfl
  refine codeAny_call_function hr.depth (KX _ _ lk) rfl S.co S.gen rfl (PySem.W.codeRec_of KX hcd) (bd _ _ _ _ ?_)
  refine wpAny_newFunctionEnv_cells S.kind two fun env he s1 x => ?_
  subst he
  have lim : s.heap.NoLimit := e0.mod.nolimit.keeps fun b o e => (e0.bs b o e).1
  refine ⟨lim.keeps x.toInCall.keep, codeAny_func ?_⟩
  have I := inv_start (CX := L2.CX P w) (vs := [.ref a]) (us := [.ref a]) (E := fun _ _ _ => False) S hr.hd e0 rfl (.cons rfl .nil) x
  have body := pss_one (X := cxOf (L2.CX P w) P w K mg base ["self"] qual scope f cdv A outer s H fun _ _ _ => False) (ps_ret (pos := p5)
    (pe_callB (p := p1) (pos := p4) call_iterW (show scope.names.lookup ("iter" : Str) = some .globalImplicit from gi) it.mi PyProof.Rows.boot_iter
      (pa_cons (pe_fld (f := F) (pos := p3) (pe_var (pos := p2) (i := 0) (x := "self") rfl (self0.elim (fun z => .inl z) fun z => .inr (.inl z))) rfl) pa_nil)))
  refine wpAny_mono (body.run [] s1 (L2.start ["self"] [.ref a]) H { nx := fun _ _ => False, rt := fun v H' => ∃ y, v = .ref y ∧ s.heap.objs.size ≤ y ∧ H' = upd H y (ItW wd d y) } I ?_) (fun fl s' hs => ?_) fun e s' hs => ?_
  · exact ⟨.ref a, rfl, a, C, dx, fs, .ref d, rfl, ea, it.cl, it.na, l, d, wd, rfl, hw, fun y _ hy => ⟨y, rfl, hy, rfl⟩⟩
  · cases fl with
    | ret u =>
      obtain ⟨v, σ', H', J, rv, y, rfl, hy, eH⟩ := hs
      cases rv
      exact ⟨y, rfl, hy, ⟨.ref y, H', J.os, J.bare, J.base, J.hok, rfl, rfl, eH⟩⟩
    | next => obtain ⟨_, _, _, q⟩ := hs; exact q.elim
    | brk => obtain ⟨_, _, _, q⟩ := hs; exact False.elim q
    | cont => obtain ⟨_, _, _, q⟩ := hs; exact False.elim q
  · have no : ∀ {e s'}, ¬ L2.CX P w outer H s (fun _ _ _ => False) e s' := fun ⟨_, _, _, _, _, _, _, _, _, _, _, _, z⟩ => z
    exact wpAny_mono hs (fun _ s2 c => (no c).elim) fun _ s2 c => (no c).elim
end
/-- what is asked of the classes with an own __iter__ -/
structure TbIt (G : Gb) (T : Tb) (mg : Str → Option Value) : Prop where
  it : ∀ c F, T.iter c = some F → ∃ f, ItFn G.K mg (G.ca c) f (Str.ofString F)
def iOwn (X : Cx) (ta : TE) : TI := fun σ H R => ta σ H fun x H1 => ∃ (a C dx : Addr) (fs : List (Str × V)) (d : Addr) (wd : Wd) (f : Addr) (F : Str), x = .ref a ∧ H1 a = some (.ins C dx fs) ∧ ItFn X.K X.mg C f F ∧ fs.lookup F = some (.ref d) ∧ wd.at X.K H1 d ∧ R (wd.J X.K d) H1
theorem pi_own {X : Cx} {tg a' : Expr} {ta : TE} {kr : Nat} (hr : Room kr X.A) (ha : PE X a' ta) : PI X tg a' (iOwn X ta) := by
  refine ⟨fun pins s σ H R I h => ?_⟩
  refine thn (ha.run pins s σ H _ I h) fun v s1 ⟨x, H1, I1, rx, a, C, dx, fs, d, wd, f, F, ex, ea, itf, l, hw, q⟩ => ?_
  subst ex
  obtain rfl : v = Value.ref a := rx
  obtain ⟨mA, J, _⟩ := ins_get I1.hok ea
  obtain ⟨od, J, _⟩ := J.look
  obtain ⟨m, hF⟩ := I1.fr
  refine PySem.W.owit_iter hF I1.ok.mod.kin J itf.at_ itf.isf ?_
  refine wpAny_call (codeAny_mono (iter_run itf hr I1.env0 ea l hw) fun r s' hq => ?_)
  obtain ⟨y, rfl, hy, ce⟩ := hq
  obtain ⟨v, H', I3, rv, ev, eH⟩ := I1.after ce
  rw [eH] at I3
  have hn := I1.hok.fresh hy
  have my : wd.mk d y 0 s'.heap := (I3.hok y _ upd_same).1
  have I4 := ItX.inv_drop I3 (a := y) upd_same
  rw [ItX.dropH_upd hn] at I4
  have f4 := ItX.inv_fp I3 upd_same (Nat.le_trans I1.sz hy)
  rw [ItX.dropH_upd hn] at f4
  refine Wd.next my ⟨y, [y], wd.mk d y, wd.J X.K d, H1, rfl, I4, Wd.turn I1 hw y, my, fun b hb => ?_, q⟩
  have e : b = y := by simpa using hb
  rw [e]; exact f4
section
variable {T : Tb} {call : Nat → List MV → MH → Res MV} {G : Gb} {E : Ent} {W : WX} {X : Cx} {q : Bool} {a e tg iter : Expr} {ea : Ex}
/-- an instance's field -/
theorem own_look {L : Lay} {h h' : MH} {H : Hp} {x : MV} {y : EV} {u : V} {c : Nat} {m F : String} (r : HR G L h H) (ke : VR G L h.length x u) (hc : clsOf x m h = some c) (hf : fldOf T x F h = .ok y h') :
    h' = h ∧ ∃ a dx ys w, u = .ref a ∧ H a = some (.ins (G.ca c) dx ys) ∧ ys.lookup (Str.ofString F) = some w ∧ ∀ lam px, ER G px L h.length H lam y w := by
  cases x with
  | ref n =>
    cases ke with
    | ref hn al =>
      unfold clsOf at hc
      unfold fldOf at hf
      dsimp only at hc hf
      cases hh : h[n]? with
      | none => rw [hh] at hc; cases hc
      | some cl =>
        rw [hh] at hc hf
        cases cl with
        | ct c => cases hc
        | lk c => cases hc
        | ins c' fs =>
          dsimp only at hc hf
          split at hc
          · cases hc
            obtain ⟨a', o, e1, e2, e3⟩ := r.cell n _ hh
            rw [al] at e1; cases e1
            cases e3 with
            | ins rf =>
              split at hf
              · cases hg : getF fs F with
                | none => rw [hg] at hf; cases hf
                | some d =>
                  rw [hg] at hf
                  obtain ⟨v, l, rv⟩ := rf.get hg
                  cases d with
                  | val w => cases hf; exact ⟨rfl, _, _, _, v, rfl, e2, l, fun _ _ => rv⟩
                  | own k =>
                    cases hf
                    obtain ⟨b, o, e4, e5, e6, e7⟩ := rv
                    exact ⟨rfl, _, _, _, v, rfl, e2, l, fun _ _ => ⟨b, o, e4, hn, e5, e6, e7⟩⟩
              · cases hf
          · cases hc
  | ins c' fs vs =>
    cases ke with
    | ins hz hl rv =>
      unfold clsOf at hc
      unfold fldOf at hf
      dsimp only at hc hf
      split at hc
      · cases hc
        split at hf
        · cases hg : (fs.zip vs).lookup F with
          | none => rw [hg] at hf; cases hf
          | some w =>
            rw [hg] at hf
            cases hf
            obtain ⟨v, l, rw'⟩ := zip_get hl rv hg
            exact ⟨rfl, _, _, _, v, rfl, r.fz _ _ hz, l, fun _ _ => rw'⟩
        · cases hf
      · cases hc
  | _ => cases hc
theorem ownAt_ok {r : Res EV} {h : MH} {n : Nat} (e : ownAt T r h = some n) : ∃ x c F, r = .ok (.v x) h ∧ clsOf x "__iter__" h = some c ∧ T.iter c = some F ∧ fldOf T x F h = .ok (.v (.ref n)) h := by
  unfold ownAt at e
  split at e
  · rename_i x h1
    split at e
    · rename_i hh
      subst hh
      split at e
      · rename_i F e1
        obtain ⟨c, e2, e3⟩ := Option.bind_eq_some_iff.mp e1
        exact ⟨x, c, F, rfl, e2, e3, refAt_ok e⟩
      · cases e
    · cases e
  · cases e
theorem ki_own (O : Ops G X) (B : TbIt G T X.mg) : KI G E q (denK T call (.own ea)) false (iOwn X (rd G E W q (den T call ea))) := by
  intro L lam σm h σ H n ks vs R p en el k
  rw [denK] at en
  obtain ⟨x, c, F, e1, e2, e3, e4⟩ := ownAt_ok en
  refine ⟨L, lam, σm, h, p, ?_⟩
  rw [e1]
  intro L' H' u s r
  obtain ⟨d, od, ys, al, hd, hl⟩ := lk_obj s.hr el
  obtain ⟨f, itf⟩ := B.it c F e3
  obtain ⟨_, a, dx, zs, w, rfl, g1, g2, g3⟩ := own_look s.hr r e2 e4
  cases (g3 (fun _ => none) (fun _ _ => False) : VR G L' h.length (.ref n) w) with
  | ref hn al' =>
    rw [al] at al'; cases al'
    exact ⟨a, _, dx, zs, d, .dct od (ks.zip ys), f, _, rfl, g1, by rw [O.K]; exact itf, g2, hd, k L' H' _ _ s (lkp_at el al hd) (it_lkeys hl)⟩
/-- for x in o -/
theorem mpi_own (O : Ops G X) (B : TbIt G T X.mg) {kr : Nat} (hr : Room kr X.A) (ha : PE X a (rd G E W q (den T call ea))) : PI X tg a (rdI G E W q (denI T call (.own ea))) :=
  (pi_own hr ha).imp fun σ H R ⟨L, lam, σm, h, p, z⟩ => by
    rw [denI] at z
    dsimp only at z
    refine rd_vb p z fun x h1 L1 H1 u e1 s1 r1 z1 => ?_
    cases hb : (clsOf x "__iter__" h1).bind T.iter with
    | none => rw [hb] at z1; exact z1.elim
    | some F =>
      rw [hb] at z1
      obtain ⟨c, e2, e3⟩ := Option.bind_eq_some_iff.mp hb
      cases hf : fldOf T x F h1 with
      | bad => simp only [hf] at z1; exact z1.elim
      | exc c h => 
        exfalso
        unfold fldOf at hf
        split at hf
        · split at hf
          · split at hf
            · split at hf <;> cases hf
            · cases hf
          · cases hf
        · split at hf
          · split at hf <;> cases hf
          · cases hf
        · cases hf
      | ok y h2 =>
        simp only [hf] at z1
        obtain ⟨f, itf⟩ := B.it c F e3
        obtain ⟨rfl, a', dx, zs, w, rfl, g1, g2, g3⟩ := own_look s1.hr r1 e2 hf
        have rw_ := g3 lam E.px
        rw [← O.K] at itf
        have z1 : (match overOf y h2 with | some r => Res.ok r h2 | none => .bad).Post _ _ := z1
        cases ho : overOf y h2 with
        | none => rw [ho] at z1; exact z1.elim
        | some iw =>
          rw [ho] at z1
          cases y with
          | w c p => cases ho
          | x c => cases ho
          | v y =>
            cases y with
            | tup vs =>
              cases ho
              cases (show VR G L1 h2.length (.tup vs) w from rw_) with
              | tup t rv => exact ⟨a', _, dx, zs, _, .tup, f, _, rfl, g1, itf, g2, ⟨_, by rw [O.K]; exact t.sq s1.hr⟩, by rw [O.K]; exact z1 L1 H1 _ _ s1 rfl (Kp.of (.cons (.tup t rv) .nil)) it_tup.ok⟩
            | lst vs =>
              cases ho
              cases (show VR G L1 h2.length (.lst vs) w from rw_) with
              | lst t rv => exact ⟨a', _, dx, zs, _, .lst, f, _, rfl, g1, itf, g2, ⟨_, SqL.of (s1.hr.fz _ _ t)⟩, by rw [O.K]; exact z1 L1 H1 _ _ s1 rfl (Kp.of (.cons (.lst t rv) .nil)) it_lst.ok⟩
            | kl vs =>
              cases ho
              cases (show VR G L1 h2.length (.kl vs) w from rw_) with
              | kl t rv => exact ⟨a', _, dx, zs, _, .lst, f, _, rfl, g1, itf, g2, ⟨_, by rw [O.K]; exact t.sq s1.hr⟩, by rw [O.K]; exact z1 L1 H1 _ _ s1 rfl (Kp.of (.cons (.kl t rv) .nil)) it_kl.ok⟩
            | ref n =>
              cases (show VR G L1 h2.length (.ref n) w from rw_) with
              | ref hn al =>
                unfold overOf at ho
                dsimp only at ho
                cases hc : h2[n]? with
                | none => rw [hc] at ho; cases ho
                | some cl =>
                  rw [hc] at ho
                  cases cl with
                  | ins c fs => cases ho
                  | lk c => cases ho
                  | ct c =>
                    cases c with
                    | lst vs =>
                      cases ho
                      obtain ⟨b', o, e5, e6, e7⟩ := s1.hr.cell n _ hc
                      rw [al] at e5; cases e5
                      cases e7 with
                      | ct e7 => cases e7 with
                        | lst rv => exact ⟨a', _, dx, zs, _, .lst, f, _, rfl, g1, itf, g2, ⟨_, SqL.of e6⟩, by rw [O.K]; exact z1 L1 H1 _ _ s1 (by simp [still, hc]) (Kp.of (.cons (.ref hn al) .nil)) it_cell.ok⟩
                    | _ => cases ho
            | _ => cases ho
end
end MP
set_option Elab.async false
set_option linter.all false
set_option autoImplicit false
set_option maxRecDepth 100000
set_option maxHeartbeats 4000000
/-! MP, part u: the check of an expression against the text, and that it holds. -/
namespace MP
open PySem PySem.Spec L2
/-! ### quiet expressions -/
mutual
def Ex.qt : Ex → Bool
  | .op _ a b => a.qt && b.qt
  | .neg a => a.qt
  | .not a => a.qt
  | .chain _ _ a b c => a.qt && (b.qt && c.qt)
  | .ife c a b => c.qt && (a.qt && b.qt)
  | .and es => es.qt
  | .or es => es.qt
  | .tup es => es.qt
  | .fz c => c.qt
  | .cl c => c.qt
  | .fld a _ => a.qt
  | .ix a b => a.qt && b.qt
  | .sl a lo hi => a.qt && (lo.qt && hi.qt)
  | .call _ _ => false
  | .meth _ _ _ => false
  | .make _ _ => false
  | .lenO _ => false
  | .bi _ es => es.qt
  | .join a b => a.qt && b.qt
  | _ => true
def Exs.qt : Exs → Bool
  | .nil => true
  | .cons e es => e.qt && es.qt
def Exo.qt : Exo → Bool
  | .no => true
  | .yes e => e.qt
def Fx.qt : Fx → Bool
  | .lst es => es.qt
  | .dnew => true
  | .cat a b => a.qt && b.qt
  | .slc a lo hi => a.qt && (lo.qt && hi.qt)
  | .list a => a.qt
  | .listD a => a.qt
  | .comp _ it c e => it.qt && (c.qt && e.qt)
  | .compK _ d c e => d.qt && (c.qt && e.qt)
  | .split a b => a.qt && b.qt
def Ite.qt : Ite → Bool
  | .over a => a.qt
  | .range1 a => a.qt
  | .range2 a b => a.qt && b.qt
  | .text a => a.qt
  | .zip a b => a.qt && b.qt
  | .own a => a.qt
def Dw.qt : Dw → Bool
  | .keys a => a.qt
  | .items a => a.qt
  | .own a => a.qt
end
/-! ### what the names are -/
structure Kn where
  N : List Str
  gl : Str → Option MV
  fnm : Str → Option Nat
  clm : Str → Option Nat
  has : Nat → Bool
  init : Nat → Bool
  /-- no exception is handled; what may be raised -/
  calm : Bool
  rai : Nat → Bool
/-- .. in an except suite -/
def Kn.suite (K : Kn) : Kn := { K with calm := false }
def dbg (x : Str) : Bool := !(x == ("__debug__" : Str)) && !(x == ("__classdict__" : Str))
def visB (sc : Scope) (x : Str) : Bool := match sc.names.lookup x with
  | some .local => true
  | some .cell => true
  | some .free => true
  | _ => false
def locB (sc : Scope) (x : Str) : Bool := match sc.names.lookup x with
  | some .local => true
  | _ => false
def locC (sc : Scope) (x : Str) : Bool := match sc.names.lookup x with
  | some .local => true
  | some .cell => true
  | _ => false
def glB (sc : Scope) (x : Str) : Bool := match sc.names.lookup x with
  | some .globalImplicit => true
  | _ => false
def isTup : Expr → Bool
  | .Tuple .. => true
  | _ => false
/-- a target -/
def chkNs (K : Kn) (sc : Scope) : List Nat → List Expr → Bool
  | [], [] => true
  | i :: is, .Name x _ :: es => decide (K.N[i]? = some x) && (locB sc x && chkNs K sc is es)
  | _, _ => false
def chkTg (K : Kn) (sc : Scope) (t : Tg) (e : Expr) : Bool := match t, e with
  | .var i, .Name x _ => decide (K.N[i]? = some x) && locB sc x
  | .tup is, .Tuple es _ _ => K.calm && chkNs K sc is es
  | _, _ => false
/-- .. of a for statement -/
def chkTgS (K : Kn) (sc : Scope) (t : Tg) (e : Expr) : Bool := match t, e with
  | .var i, .Name x _ => decide (K.N[i]? = some x) && locC sc x
  | .tup is, .Tuple es _ _ => K.calm && chkNs K sc is es
  | _, _ => false
def ownOf (K : Kn) (t : Tg) : List (Str × Nat) := t.own.map fun i => (K.N.getD i "", i)
mutual
def chk (K : Kn) (sc : Scope) : Ex → Expr → Bool
  | .var i, e => (match e with
    | .Name x _ => decide (K.N[i]? = some x) && (visB sc x && dbg x)
    | _ => false)
  | .non, e => (match e with
    | .Constant .none _ _ => true
    | _ => false)
  | .bl k, e => (match e with
    | .Constant (.bool j) _ _ => decide (k = j)
    | _ => false)
  | .int i, e => (match e with
    | .Constant (.int j) _ _ => decide (i = j)
    | _ => false)
  | .str s, e => (match e with
    | .Constant (.str x) _ _ => decide (x = Str.ofString s)
    | _ => false)
  | .gl _ v, e => (match e with
    | .Name x _ => glB sc x && decide (K.gl x = some v)
    | _ => false)
  | .op o a b, e => (match e with
    | .BinOp a' op b' _ => decide (o.bin = some op) && (chk K sc a a' && (chk K sc b b' && (a.nofld || b.qt)))
    | .Compare a' [op] [b'] _ => decide (o.cmp = some op) && (chk K sc a a' && (chk K sc b b' && (okE b' && (a.nofld || b.qt))))
    | _ => false)
  | .neg a, e => (match e with
    | .UnaryOp .USub a' _ => chk K sc a a'
    | _ => false)
  | .not a, e => (match e with
    | .UnaryOp .Not a' _ => chk K sc a a'
    | _ => false)
  | .chain o o' a b c, e => (match e with
    | .Compare a' [op, op'] [b', c'] _ => decide (o.cmp = some op) && (decide (o'.cmp = some op') && (chk K sc a a' && (chk K sc b b' && (chk K sc c c' && (okE c' && ((a.nofld || b.qt) && (b.nofld || c.qt)))))))
    | _ => false)
  | .ife c a b, e => (match e with
    | .IfExp c' a' b' _ => (chkT K sc c c' || (plT c' && chk K sc c c')) && (chk K sc a a' && chk K sc b b')
    | _ => false)
  | .and es, e => (match e with
    | .BoolOp .And es' _ => chkB K sc es es'
    | _ => false)
  | .or es, e => (match e with
    | .BoolOp .Or es' _ => chkB K sc es es'
    | _ => false)
  | .tup es, e => (match e with
    | .Tuple es' _ _ => chkA K sc es es'
    | _ => false)
  | .fz f, e => chkF K sc f e
  | .cl f, e => chkF K sc f e
  | .fld a f, e => (match e with
    | .Attribute a' x _ => decide (x = Str.ofString f) && (chk K sc a a' && okE a')
    | _ => false)
  | .ix a b, e => (match e with
    | .Subscript a' b' _ => chk K sc a a' && (chk K sc b b' && (okE b' && (a.nofld || b.qt)))
    | _ => false)
  | .sl a lo hi, e => (match e with
    | .Subscript a' (.Slice lo' hi' none _) _ => chk K sc a a' && (chkO K sc lo lo' && (chkO K sc hi hi' && (a.nofld || (lo.qt && hi.qt))))
    | _ => false)
  | .call f es, e => (match e with
    | .Call (.Name x _) es' [] _ => decide (K.fnm x = some f) && (K.has f && (glB sc x && (dbg x && (chkA K sc es es' && K.calm))))
    | _ => false)
  | .meth a m es, e => (match e with
    | .Call (.Attribute a' x ap) es' [] p => decide (x = Str.ofString m) && (chk K sc a a' && (okE a' && (chkA K sc es es' && (decide (es'.length < 30) && ((ap.endLine == p.line) && K.calm)))))
    | _ => false)
  | .make c es, e => (match e with
    | .Call (.Name x _) es' [] _ => decide (K.clm x = some c) && (K.init c && (glB sc x && (dbg x && (chkA K sc es es' && K.calm))))
    | _ => false)
  | .bi b es, e => (match e with
    | .Call (.Name x _) (a' :: es') [] _ => decide (x = Str.ofString b.name) && (glB sc x && (chkX K sc es (a' :: es') && (!b.hot || K.calm)))
    | _ => false)
  | .isx i _ v, e => (match e with
    | .Call (.Name f _) [.Name n _, .Name y _] [] _ => decide (f = Str.ofString "isinstance") && (glB sc f && (decide (K.N[i]? = some n) && (visB sc n && (dbg n && (glB sc y && decide (K.gl y = some v))))))
    | _ => false)
  | .lenO a, e => (match e with
    | .Call (.Name x _) [a'] [] _ => decide (x = ("len" : Str)) && (glB sc x && (chk K sc a a' && (okE a' && K.calm)))
    | _ => false)
  | .join a b, e => (match e with
    | .Call (.Attribute a' x ap) [b'] [] p => decide (x = Str.ofString "join") && (chk K sc a a' && (okE a' && (chk K sc b b' && (okE b' && (ap.endLine == p.line)))))
    | _ => false)
/-- a test -/
def chkT (K : Kn) (sc : Scope) : Ex → Expr → Bool
  | .not a, e => (match e with
    | .UnaryOp .Not a' _ => chkT K sc a a' || (plT a' && chk K sc a a')
    | _ => false)
  | .and es, e => (match e with
    | .BoolOp .And es' _ => chkBT K sc es es'
    | _ => false)
  | .or es, e => (match e with
    | .BoolOp .Or es' _ => chkBT K sc es es'
    | _ => false)
  | .op o a b, e => (match e with
    | .Compare a' [op] [b'] _ => decide (o.cmp = some op) && (chk K sc a a' && (chk K sc b b' && (okE b' && (a.nofld || b.qt))))
    | _ => false)
  | .chain o o' a b c, e => (match e with
    | .Compare a' [op, op'] [b', c'] _ => decide (o.cmp = some op) && (decide (o'.cmp = some op') && (chk K sc a a' && (chk K sc b b' && (chk K sc c c' && (okE c' && ((a.nofld || b.qt) && (b.nofld || c.qt)))))))
    | _ => false)
  | _, _ => false
def chkB (K : Kn) (sc : Scope) : Exs → List Expr → Bool
  | .cons a .nil, es => (match es with
    | [a'] => chk K sc a a'
    | _ => false)
  | .cons a as, es => (match es with
    | a' :: b' :: es' => chk K sc a a' && chkB K sc as (b' :: es')
    | _ => false)
  | .nil, _ => false
def chkBT (K : Kn) (sc : Scope) : Exs → List Expr → Bool
  | .cons a .nil, es => (match es with
    | [a'] => chkT K sc a a' || (plT a' && chk K sc a a')
    | _ => false)
  | .cons a as, es => (match es with
    | a' :: b' :: es' => (chkT K sc a a' || (plT a' && chk K sc a a')) && chkBT K sc as (b' :: es')
    | _ => false)
  | .nil, _ => false
def chkA (K : Kn) (sc : Scope) : Exs → List Expr → Bool
  | .nil, es => es.isEmpty
  | .cons a as, es => (match es with
    | a' :: es' => chk K sc a a' && (okE a' && chkA K sc as es')
    | _ => false)
def chkX (K : Kn) (sc : Scope) : Exs → List Expr → Bool
  | .nil, es => es.isEmpty
  | .cons a as, es => (match es with
    | a' :: es' => chk K sc a a' && (okE a' && (chkX K sc as es' && (a.nofld || as.qt)))
    | _ => false)
def chkO (K : Kn) (sc : Scope) : Exo → Option Expr → Bool
  | .no, e => e.isNone
  | .yes a, e => (match e with
    | some a' => chk K sc a a'
    | none => false)
def chkF (K : Kn) (sc : Scope) : Fx → Expr → Bool
  | .lst es, e => (match e with
    | .List es' _ => chkA K sc es es'
    | _ => false)
  | .dnew, e => (match e with
    | .Dict [] [] _ => true
    | _ => false)
  | .cat a b, e => (match e with
    | .BinOp a' .Add b' _ => chk K sc a a' && (chk K sc b b' && (a.nofld || b.qt))
    | _ => false)
  | .slc a lo hi, e => (match e with
    | .Subscript a' (.Slice lo' hi' none _) _ => chk K sc a a' && (chkO K sc lo lo' && (chkO K sc hi hi' && (a.nofld || (lo.qt && hi.qt))))
    | _ => false)
  | .list a, e => (match e with
    | .Call (.Name x _) [a'] [] _ => decide (x = Str.ofString "list") && (glB sc x && (chk K sc a a' && okE a'))
    | _ => false)
  | .listD a, e => (match e with
    | .Call (.Name x _) [a'] [] _ => decide (x = Str.ofString "list") && (glB sc x && (chk K sc a a' && (okE a' && K.calm)))
    | _ => false)
  | .compK t d c el, e => (match e with
    | .ListComp elt [⟨tg, iter, ifs, 0⟩] scope _ => K.calm && (chkD K sc d tg iter && (okE iter && (blkC K.N sc scope (ownOf K t) && (chkTg K (relS scope sc) t tg && (chkC K (relS scope sc) c ifs && chk K (relS scope sc) el elt)))))
    | _ => false)
  | .comp t it c el, e => (match e with
    | .ListComp elt [⟨tg, iter, ifs, 0⟩] scope _ => K.calm && (chkI K sc it tg iter && (okE iter && (blkC K.N sc scope (ownOf K t) && (chkTg K (relS scope sc) t tg && (chkC K (relS scope sc) c ifs && chk K (relS scope sc) el elt)))))
    | _ => false)
  | .split a b, e => (match e with
    | .Call (.Attribute a' x ap) [b'] [] p => decide (x = Str.ofString "split") && (chk K sc a a' && (okE a' && (chk K sc b b' && (okE b' && (ap.endLine == p.line)))))
    | _ => false)
def chkC (K : Kn) (sc : Scope) : Exo → List Expr → Bool
  | .no, es => es.isEmpty
  | .yes a, es => (match es with
    | [a'] => chkT K sc a a' || (plT a' && chk K sc a a')
    | _ => false)
def chkI (K : Kn) (sc : Scope) : Ite → Expr → Expr → Bool
  | .over a, _, e => chk K sc a e
  | .text a, _, e => chk K sc a e
  | .own a, _, e => K.calm && chk K sc a e
  | .zip a b, tg, e => (match e with
    | .Call (.Name x _) [a', b'] [] _ => decide (x = Str.ofString "zip") && (glB sc x && (chk K sc a a' && (okE a' && (chk K sc b b' && (okE b' && isTup tg)))))
    | _ => false)
  | .range1 a, _, e => (match e with
    | .Call (.Name x _) [a'] [] _ => decide (x = Str.ofString "range") && (glB sc x && (chk K sc a a' && okE a'))
    | _ => false)
  | .range2 a b, _, e => (match e with
    | .Call (.Name x _) [a', b'] [] _ => decide (x = Str.ofString "range") && (glB sc x && (chk K sc a a' && (okE a' && (chk K sc b b' && okE b'))))
    | _ => false)
def chkD (K : Kn) (sc : Scope) : Dw → Expr → Expr → Bool
  | .keys a, _, e => chk K sc a e
  | .own a, _, e => K.calm && chk K sc a e
  | .items a, tg, e => (match e with
    | .Call (.Attribute a' x ap) [] [] p => decide (x = Str.ofString "items") && (chk K sc a a' && (okE a' && (isTup tg && (ap.endLine == p.line))))
    | _ => false)
end
end MP
set_option Elab.async false
set_option linter.all false
set_option autoImplicit false
set_option maxRecDepth 100000
set_option maxHeartbeats 4000000
/-! MP, part v: a checked expression means what it says. -/
namespace MP
open PySem PySem.Spec L2
structure Gd (G : Gb) (T : Tb) (K : Kn) (call : Nat → List MV → MH → Res MV) (j : Nat) (sc : Scope) (X : Cx) (W : WX) : Prop where
  ops : Ops G X
  tb : TbOk G T
  is : TbIs G T
  nd : X.N.Nodup
  N : X.N = K.N
  sc : X.env.scope = sc
  gl : ∀ x v, K.gl x = some v → Glob G X x v
  fnm : ∀ x f, K.fnm x = some f → X.mg x = some (.ref (G.fa f))
  clm : ∀ x c, K.clm x = some c → X.mg x = some (.ref (G.ca c))
  ini : ∀ c, K.init c = true → ∃ f, T.init c = some f
  bl : ∀ b : Bi, X.mg (Str.ofString b.name) = none
  rng : X.mg "range" = none
  lst : X.mg "list" = none
  zp : X.mg "zip" = none
  cal : K.calm = true → Cal G T X j call K.has
  calm : K.calm = true → X.calm = true
  ex : TbEx G T
  rai : ∀ c, K.rai c = true → T.rai c = true
  tk : Takes X W
  itr : TbIt G T X.mg
/-- exceptions in hand are those of the suite -/
def PxOk (G : Gb) (K : Kn) (X : Cx) (E : Ent) : Prop := ∀ a c, E.px a c → K.calm = false ∧ IsX G X a c
section
variable {G : Gb} {T : Tb} {K : Kn} {call : Nat → List MV → MH → Res MV} {j : Nat} {sc : Scope} {X : Cx} {W : WX}
theorem Gd.blk (g : Gd G T K call j sc X W) (s : Shared) (H : Hp) (scope : Scope) (C : Addr) (cl : List (Str × Addr)) (fp : List Addr) : Gd G T K call j (relS scope sc) (X.blk s H scope (compEnvC scope cl C X.env) fp) (fun _ _ _ _ => False) where
  ops := ⟨g.ops.K, g.ops.kd, g.ops.hu⟩
  tb := g.tb
  is := g.is
  nd := g.nd
  N := g.N
  sc := by rw [← g.sc]; rfl
  gl := g.gl
  fnm := g.fnm
  clm := g.clm
  ini := g.ini
  bl := g.bl
  rng := g.rng
  lst := g.lst
  zp := g.zp
  cal := fun hc => ⟨(g.cal hc).fn, (g.cal hc).meth, (g.cal hc).init, (g.cal hc).room⟩
  calm := g.calm
  ex := g.ex
  rai := g.rai
  itr := g.itr
  tk := fun u s' ⟨a, B, sI, pins, σ, H, cls, d, e, I, nb, up, sky, na, os, ag, w⟩ => w.elim
theorem Gd.tr (g : Gd G T K call j sc X W) {W' : WX} {pn : List (Addr × Obj)} {xe : Value → Shared → Prop} (tk : Takes (X.tr pn xe) W') : Gd G T K call j sc (X.tr pn xe) W' where
  ops := ⟨g.ops.K, g.ops.kd, g.ops.hu⟩
  tb := g.tb
  is := g.is
  nd := g.nd
  N := g.N
  sc := g.sc
  gl := g.gl
  fnm := g.fnm
  clm := g.clm
  ini := g.ini
  bl := g.bl
  rng := g.rng
  lst := g.lst
  zp := g.zp
  cal := fun hc => ⟨(g.cal hc).fn, (g.cal hc).meth, (g.cal hc).init, (g.cal hc).room⟩
  calm := g.calm
  ex := g.ex
  rai := g.rai
  itr := g.itr
  tk := tk
theorem Gd.suite (g : Gd G T K call j sc X W) (a : Addr) (pn : List (Addr × Obj)) : Gd G T K.suite call j sc (X.suite a pn) (fun _ _ _ _ => False) where
  ops := ⟨g.ops.K, g.ops.kd, g.ops.hu⟩
  tb := g.tb
  is := g.is
  nd := g.nd
  N := g.N
  sc := g.sc
  gl := g.gl
  fnm := g.fnm
  clm := g.clm
  ini := g.ini
  bl := g.bl
  rng := g.rng
  lst := g.lst
  zp := g.zp
  cal := fun hc => (by cases hc)
  calm := fun hc => (by cases hc)
  ex := g.ex
  rai := g.rai
  itr := g.itr
  tk := fun u s' ⟨a, B, sI, pins, σ, H, cls, d, e, I, nb, up, sky, na, os, ag, w⟩ => w.elim
theorem PxOk.none {E : Ent} (hp : PxOk G K X E) (hc : K.calm = true) {X' : Cx} : PxOk G K X' E := fun a c z => by have := (hp a c z).1; rw [hc] at this; cases this
theorem vis_of (g : Gd G T K call j sc X W) {x : Str} (h : visB sc x = true) : Vis X.env.scope x := by
  unfold visB at h
  rw [g.sc]
  split at h
  · exact .inl (by assumption)
  · exact .inr (.inl (by assumption))
  · exact .inr (.inr (by assumption))
  · cases h
theorem loc_of (g : Gd G T K call j sc X W) {x : Str} (h : locB sc x = true) : X.env.scope.names.lookup x = some .local := by
  unfold locB at h
  rw [g.sc]
  split at h
  · assumption
  · cases h
theorem locC_of (g : Gd G T K call j sc X W) {x : Str} (h : locC sc x = true) : Loc X.env.scope x := by
  unfold locC at h
  show X.env.scope.names.lookup x = some .local ∨ X.env.scope.names.lookup x = some .cell
  rw [g.sc]
  split at h
  · exact .inl (by assumption)
  · exact .inr (by assumption)
  · cases h
theorem gl_of (g : Gd G T K call j sc X W) {x : Str} (h : glB sc x = true) : Gl X x := by
  unfold glB at h
  show X.env.scope.names.lookup x = some .globalImplicit
  rw [g.sc]
  split at h
  · assumption
  · cases h
theorem dbg_of {x : Str} (h : dbg x = true) : (x == ("__debug__" : Str)) = false ∧ (x == ("__classdict__" : Str)) = false := by
  unfold dbg at h
  simp only [Bool.and_eq_true, Bool.not_eq_true'] at h
  exact h
theorem names_of (g : Gd G T K call j sc X W) : ∀ {is : List Nat} {es : List Expr}, chkNs K sc is es = true → namesOk X is es = true
  | [], [], _ => rfl
  | i :: is, .Name x p :: es, h => by
    unfold chkNs at h
    unfold namesOk
    simp only [Bool.and_eq_true, decide_eq_true_eq] at h ⊢
    exact ⟨by rw [g.N]; exact h.1, loc_of g h.2.1, names_of g h.2.2⟩
  | [], _ :: _, h => by cases h
  | _ :: _, [], h => by cases h
theorem tg_ok (g : Gd G T K call j sc X W) {E : Ent} {t : Tg} {e : Expr} (h : chkTg K sc t e = true) : PG X e (rdG G E t) := by
  cases t with
  | var i =>
    cases e with
    | Name x p =>
      have h : (decide (K.N[i]? = some x) && locB sc x) = true := h
      simp only [Bool.and_eq_true, decide_eq_true_eq] at h
      have l := loc_of g h.2
      exact mpg_var g.nd (by rw [g.N]; exact h.1) (.inl l) (.inr l)
    | _ => cases h
  | tup is =>
    cases e with
    | Tuple es n p =>
      have h : (K.calm && chkNs K sc is es) = true := h
      rw [Bool.and_eq_true] at h
      exact mpg_tup g.ops (g.calm h.1) g.nd (names_of g h.2)
    | _ => cases h
theorem tgS_ok (g : Gd G T K call j sc X W) (hf : ∀ x, X.fn x = true) {E : Ent} {t : Tg} {e : Expr} (h : chkTgS K sc t e = true) : PG X e (rdG G E t) := by
  cases t with
  | var i =>
    cases e with
    | Name x p =>
      have h : (decide (K.N[i]? = some x) && locC sc x) = true := h
      simp only [Bool.and_eq_true, decide_eq_true_eq] at h
      exact mpg_var g.nd (by rw [g.N]; exact h.1) (locC_of g h.2) (.inl (hf x))
    | _ => cases h
  | tup is =>
    cases e with
    | Tuple es n p =>
      have h : (K.calm && chkNs K sc is es) = true := h
      rw [Bool.and_eq_true] at h
      exact mpg_tup g.ops (g.calm h.1) g.nd (names_of g h.2)
    | _ => cases h
theorem okes_of {K : Kn} {sc : Scope} : ∀ {xs : Exs} {es : List Expr}, chkA K sc xs es = true → es.all okE = true
  | .nil, es, h => by
    unfold chkA at h
    cases es with
    | nil => rfl
    | cons _ _ => cases h
  | .cons a as, es, h => by
    unfold chkA at h
    cases es with
    | nil => cases h
    | cons e es =>
      simp only [Bool.and_eq_true] at h
      rw [List.all_cons, h.2.1, okes_of h.2.2]; rfl
theorem okes_ofX {K : Kn} {sc : Scope} : ∀ {xs : Exs} {es : List Expr}, chkX K sc xs es = true → es.all okE = true
  | .nil, es, h => by
    unfold chkX at h
    cases es with
    | nil => rfl
    | cons _ _ => cases h
  | .cons a as, es, h => by
    unfold chkX at h
    cases es with
    | nil => cases h
    | cons e es =>
      simp only [Bool.and_eq_true] at h
      rw [List.all_cons, h.2.1, okes_ofX h.2.2.1]; rfl
theorem own_map {K : Kn} {t : Tg} : (ownOf K t).map (·.2) = t.own := by
  unfold ownOf
  rw [List.map_map]
  exact List.map_id _
theorem nf_of {a b : Bool} (h : (a || b) = true) : a = true ∨ b = true := by simpa using h
end
section
variable {G : Gb} {T : Tb} {K : Kn} {call : Nat → List MV → MH → Res MV} {j : Nat}
mutual
theorem chk_ok : ∀ (ex : Ex) (e : Expr) (sc : Scope) (X : Cx) (W : WX) (E : Ent) (q : Bool), chk K sc ex e = true → Gd G T K call j sc X W → PxOk G K X E → (q = true → ex.qt = true) → PE X e (rd G E W q (den T call ex))
  | .var i, e, sc, X, W, E, q, h, g, hp, hq => by
    unfold chk at h
    split at h
    · simp only [Bool.and_eq_true, decide_eq_true_eq] at h
      exact mp_var (by rw [g.N]; exact h.1) (vis_of g h.2.1) (dbg_of h.2.2).1 (dbg_of h.2.2).2
    · cases h
  | .non, e, sc, X, W, E, q, h, g, hp, hq => by
    unfold chk at h
    split at h
    · exact mp_non
    · cases h
  | .bl k, e, sc, X, W, E, q, h, g, hp, hq => by
    unfold chk at h
    split at h
    · rw [of_decide_eq_true h]; exact mp_bl
    · cases h
  | .int k, e, sc, X, W, E, q, h, g, hp, hq => by
    unfold chk at h
    split at h
    · rw [of_decide_eq_true h]; exact mp_int
    · cases h
  | .str k, e, sc, X, W, E, q, h, g, hp, hq => by
    unfold chk at h
    split at h
    · exact mp_str (of_decide_eq_true h)
    · cases h
  | .gl s v, e, sc, X, W, E, q, h, g, hp, hq => by
    unfold chk at h
    split at h
    · simp only [Bool.and_eq_true, decide_eq_true_eq] at h
      exact mp_gl (gl_of g h.1) (g.gl _ _ h.2)
    · cases h
  | .op o a b, e, sc, X, W, E, q, h, g, hp, hq => by
    have hq1 : q = true → a.qt = true := fun z => by have := hq z; simp only [Ex.qt, Bool.and_eq_true] at this; exact this.1
    have hq2 : q = true → b.qt = true := fun z => by have := hq z; simp only [Ex.qt, Bool.and_eq_true] at this; exact this.2
    unfold chk at h
    split at h
    · simp only [Bool.and_eq_true, decide_eq_true_eq] at h
      exact mp_bin g.ops h.1 (chk_ok a _ sc X W E a.qt h.2.1 g hp (fun z => z)) (chk_ok b _ sc X W E b.qt h.2.2.1 g hp (fun z => z)) (nf_of h.2.2.2) hq1 hq2
    · simp only [Bool.and_eq_true, decide_eq_true_eq] at h
      exact mp_cmp g.ops h.1 (chk_ok a _ sc X W E a.qt h.2.1 g hp (fun z => z)) (chk_ok b _ sc X W E b.qt h.2.2.1 g hp (fun z => z)) h.2.2.2.1 (nf_of h.2.2.2.2) hq1 hq2
    · cases h
  | .neg a, e, sc, X, W, E, q, h, g, hp, hq => by
    unfold chk at h
    split at h
    · exact mp_neg (chk_ok a _ sc X W E q h g hp (fun z => by have := hq z; simpa only [Ex.qt] using this))
    · cases h
  | .not a, e, sc, X, W, E, q, h, g, hp, hq => by
    unfold chk at h
    split at h
    · exact mp_not g.ops (chk_ok a _ sc X W E q h g hp (fun z => by have := hq z; simpa only [Ex.qt] using this))
    · cases h
  | .chain o o' a b c, e, sc, X, W, E, q, h, g, hp, hq => by
    have hq0 : q = true → a.qt = true ∧ b.qt = true ∧ c.qt = true := fun z => by have := hq z; simpa only [Ex.qt, Bool.and_eq_true] using this
    unfold chk at h
    split at h
    · simp only [Bool.and_eq_true, decide_eq_true_eq] at h
      exact mp_chain g.ops h.1 h.2.1 (chk_ok a _ sc X W E a.qt h.2.2.1 g hp (fun z => z)) (chk_ok b _ sc X W E b.qt h.2.2.2.1 g hp (fun z => z)) (chk_ok c _ sc X W E c.qt h.2.2.2.2.1 g hp (fun z => z)) h.2.2.2.2.2.1 (nf_of h.2.2.2.2.2.2.1) (nf_of h.2.2.2.2.2.2.2) (fun z => (hq0 z).1) (fun z => (hq0 z).2.1) (fun z => (hq0 z).2.2)
    · cases h
  | .ife c a b, e, sc, X, W, E, q, h, g, hp, hq => by
    have hq0 : q = true → c.qt = true ∧ a.qt = true ∧ b.qt = true := fun z => by have := hq z; simpa only [Ex.qt, Bool.and_eq_true] using this
    unfold chk at h
    split at h
    · rename_i c' a' b' _
      simp only [Bool.and_eq_true] at h
      have ht : PT X c' (rdT G E W c.qt fun s h => (den T call c s h).bool) := by
        by_cases z : chkT K sc c c' = true
        · exact chkT_ok c c' sc X W E c.qt z g hp (fun z => z)
        · rw [Bool.or_eq_true] at h
          have h1 := h.1.resolve_left z
          rw [Bool.and_eq_true] at h1
          exact mpt_plain g.ops (chk_ok c c' sc X W E c.qt h1.2 g hp (fun z => z)) h1.1
      exact mp_ife ht (chk_ok a a' sc X W E q h.2.1 g hp (fun z => (hq0 z).2.1)) (chk_ok b b' sc X W E q h.2.2 g hp (fun z => (hq0 z).2.2)) (fun z => (hq0 z).1)
    · cases h
  | .and es, e, sc, X, W, E, q, h, g, hp, hq => by
    unfold chk at h
    split at h
    · rw [den]
      exact chkB_and es _ sc X W E q _ h g hp (fun z => by have := hq z; simpa only [Ex.qt] using this)
    · cases h
  | .or es, e, sc, X, W, E, q, h, g, hp, hq => by
    unfold chk at h
    split at h
    · rw [den]
      exact chkB_or es _ sc X W E q _ h g hp (fun z => by have := hq z; simpa only [Ex.qt] using this)
    · cases h
  | .tup es, e, sc, X, W, E, q, h, g, hp, hq => by
    unfold chk at h
    split at h
    · exact mp_tup (chkA_ok es _ sc X W E q h g hp (fun z => by have := hq z; simpa only [Ex.qt] using this))
    · cases h
  | .fz f, e, sc, X, W, E, q, h, g, hp, hq => by
    unfold chk at h
    exact mp_fz (chkF_ok f _ sc X W E q h g hp (fun z => by have := hq z; simpa only [Ex.qt] using this))
  | .cl f, e, sc, X, W, E, q, h, g, hp, hq => by
    unfold chk at h
    exact mp_cl (chkF_ok f _ sc X W E q h g hp (fun z => by have := hq z; simpa only [Ex.qt] using this))
  | .fld a f, e, sc, X, W, E, q, h, g, hp, hq => by
    unfold chk at h
    split at h
    · simp only [Bool.and_eq_true, decide_eq_true_eq] at h
      exact mp_fld g.ops g.tb h.1 (chk_ok a _ sc X W E q h.2.1 g hp (fun z => by have := hq z; simpa only [Ex.qt] using this)) h.2.2
    · cases h
  | .ix a b, e, sc, X, W, E, q, h, g, hp, hq => by
    have hq0 : q = true → a.qt = true ∧ b.qt = true := fun z => by have := hq z; simpa only [Ex.qt, Bool.and_eq_true] using this
    unfold chk at h
    split at h
    · simp only [Bool.and_eq_true] at h
      exact mp_ix g.ops (chk_ok a _ sc X W E a.qt h.1 g hp (fun z => z)) (chk_ok b _ sc X W E b.qt h.2.1 g hp (fun z => z)) h.2.2.1 (nf_of h.2.2.2) (fun z => (hq0 z).1) (fun z => (hq0 z).2)
    · cases h
  | .sl a lo hi, e, sc, X, W, E, q, h, g, hp, hq => by
    have hq0 : q = true → a.qt = true ∧ lo.qt = true ∧ hi.qt = true := fun z => by have := hq z; simpa only [Ex.qt, Bool.and_eq_true] using this
    unfold chk at h
    split at h
    · simp only [Bool.and_eq_true] at h
      have nf : a.nofld = true ∨ (lo.qt = true ∧ hi.qt = true) := by simpa using h.2.2.2
      exact mp_sl g.ops (chk_ok a _ sc X W E a.qt h.1 g hp (fun z => z)) (chkO_ok lo _ sc X W E lo.qt h.2.1 g hp (fun z => z)) (chkO_ok hi _ sc X W E hi.qt h.2.2.1 g hp (fun z => z)) nf (fun z => (hq0 z).1) (fun z => (hq0 z).2.1) (fun z => (hq0 z).2.2)
    · cases h
  | .call f es, e, sc, X, W, E, q, h, g, hp, hq => by
    have q0 : q = false := by
      cases q with
      | false => rfl
      | true => have := hq rfl; simp [Ex.qt] at this
    subst q0
    unfold chk at h
    split at h
    · rename_i x p es' p2
      simp only [Bool.and_eq_true, decide_eq_true_eq] at h
      have F := (g.cal h.2.2.2.2.2).fn f h.2.1
      have hr : Room j X.A := (g.cal h.2.2.2.2.2).room.mono (Nat.le_succ _)
      have hm := g.fnm _ _ h.1
      have hd := (dbg_of h.2.2.2.1).1
      have oks := okes_of h.2.2.2.2.1
      cases es' with
      | nil =>
        have e0 : es = .nil := by
          have z := h.2.2.2.2.1
          cases es with
          | nil => rfl
          | cons _ _ => unfold chkA at z; cases z
        subst e0
        exact mp_call0 F hr g.tk (gl_of g h.2.2.1) hm hd
      | cons e' es' =>
        have hA := chkA_ok es _ sc X W E false h.2.2.2.2.1 g hp (fun z => by cases z)
        rw [List.all_cons, Bool.and_eq_true] at oks
        exact mp_call F hr g.tk (gl_of g h.2.2.1) hm hd hA oks.1 oks.2
    · cases h
  | .meth a m es, e, sc, X, W, E, q, h, g, hp, hq => by
    have q0 : q = false := by
      cases q with
      | false => rfl
      | true => have := hq rfl; simp [Ex.qt] at this
    subst q0
    unfold chk at h
    split at h
    · rename_i a' x ap es' p2
      simp only [Bool.and_eq_true, decide_eq_true_eq] at h
      have oks := okes_of h.2.2.2.1
      have hs : (es' = [] ∧ es = .nil) ∨ ∃ e es'', es' = e :: es'' ∧ PA X es' (rdA G E W false (dens T call es)) := by
        cases es' with
        | nil =>
          refine .inl ⟨rfl, ?_⟩
          have z := h.2.2.2.1
          cases es with
          | nil => rfl
          | cons _ _ => unfold chkA at z; cases z
        | cons e' es' => exact .inr ⟨e', es', rfl, chkA_ok es _ sc X W E false h.2.2.2.1 g hp (fun z => by cases z)⟩
      exact mp_meth g.ops g.tb (g.cal h.2.2.2.2.2.2) g.tk h.1 (chk_ok a _ sc X W E a.qt h.2.1 g hp (fun z => z)) h.2.2.1 hs oks h.2.2.2.2.1 h.2.2.2.2.2.1
    · cases h
  | .make c es, e, sc, X, W, E, q, h, g, hp, hq => by
    have q0 : q = false := by
      cases q with
      | false => rfl
      | true => have := hq rfl; simp [Ex.qt] at this
    subst q0
    unfold chk at h
    split at h
    · rename_i x p es' p2
      simp only [Bool.and_eq_true, decide_eq_true_eq] at h
      obtain ⟨f, hi⟩ := g.ini c h.2.1
      have oks := okes_of h.2.2.2.2.1
      have hs : (es' = [] ∧ es = .nil) ∨ ∃ e es'', es' = e :: es'' ∧ PA X es' (rdA G E W false (dens T call es)) := by
        cases es' with
        | nil =>
          refine .inl ⟨rfl, ?_⟩
          have z := h.2.2.2.2.1
          cases es with
          | nil => rfl
          | cons _ _ => unfold chkA at z; cases z
        | cons e' es' => exact .inr ⟨e', es', rfl, chkA_ok es _ sc X W E false h.2.2.2.2.1 g hp (fun z => by cases z)⟩
      exact mp_make g.ops g.tb (g.cal h.2.2.2.2.2) g.tk hi (gl_of g h.2.2.1) (g.clm _ _ h.1) (dbg_of h.2.2.2.1).1 hs oks
    · cases h
  | .bi b es, e, sc, X, W, E, q, h, g, hp, hq => by
    unfold chk at h
    split at h
    · rename_i x p a' es' p2
      simp only [Bool.and_eq_true, decide_eq_true_eq] at h
      have oks := okes_ofX h.2.2.1
      rw [List.all_cons, Bool.and_eq_true] at oks
      have cm : b.hot = true → X.calm = true := fun z => g.calm (by have z2 := h.2.2.2; rw [z] at z2; simpa using z2)
      exact mp_bi g.ops g.is cm h.1 (gl_of g h.2.1) (by rw [h.1]; exact g.bl b) oks.1 oks.2 (chkX_ok es _ sc X W E q h.2.2.1 g hp (fun z => by have := hq z; simpa only [Ex.qt] using this))
    · cases h
  | .isx i s v, e, sc, X, W, E, q, h, g, hp, hq => by
    unfold chk at h
    split at h
    · rename_i f p n p1 y p2 p3
      simp only [Bool.and_eq_true, decide_eq_true_eq] at h
      obtain ⟨rfl, h2, h3, h4, h5, h6, h7⟩ := h
      exact mp_isx g.ops g.ex (fun a c z => (hp a c z).2) (gl_of g h2) (g.bl .isinst) (by rw [g.N]; exact h3) (vis_of g h4) (dbg_of h5).1 (dbg_of h5).2 (gl_of g h6) (g.gl _ _ h7)
    · cases h
  | .lenO a, e, sc, X, W, E, q, h, g, hp, hq => by
    have q0 : q = false := by
      cases q with
      | false => rfl
      | true => have := hq rfl; simp [Ex.qt] at this
    subst q0
    unfold chk at h
    split at h
    · rename_i x p a' p2
      simp only [Bool.and_eq_true, decide_eq_true_eq] at h
      exact mp_lenO g.ops g.tb (g.cal h.2.2.2.2) g.tk h.1 (gl_of g h.2.1) (by rw [h.1]; exact g.bl .len) (chk_ok a _ sc X W E a.qt h.2.2.1 g hp (fun z => z)) h.2.2.2.1
    · cases h
  | .join a b, e, sc, X, W, E, q, h, g, hp, hq => by
    have hq0 : q = true → a.qt = true ∧ b.qt = true := fun z => by have := hq z; simpa only [Ex.qt, Bool.and_eq_true] using this
    unfold chk at h
    split at h
    · simp only [Bool.and_eq_true, decide_eq_true_eq] at h
      exact mp_join g.ops h.1 (chk_ok a _ sc X W E a.qt h.2.1 g hp (fun z => z)) (chk_ok b _ sc X W E b.qt h.2.2.2.1 g hp (fun z => z)) h.2.2.1 h.2.2.2.2.1 h.2.2.2.2.2 (fun z => (hq0 z).1) (fun z => (hq0 z).2)
    · cases h
theorem chkT_ok : ∀ (ex : Ex) (e : Expr) (sc : Scope) (X : Cx) (W : WX) (E : Ent) (q : Bool), chkT K sc ex e = true → Gd G T K call j sc X W → PxOk G K X E → (q = true → ex.qt = true) → PT X e (rdT G E W q fun s h => (den T call ex s h).bool)
  | .not a, e, sc, X, W, E, q, h, g, hp, hq => by
    unfold chkT at h
    split at h
    · rename_i a' p
      have hq1 : q = true → a.qt = true := fun z => by have := hq z; simpa only [Ex.qt] using this
      refine mpt_not ?_
      by_cases z : chkT K sc a a' = true
      · exact chkT_ok a a' sc X W E q z g hp hq1
      · rw [Bool.or_eq_true] at h
        have h1 := h.resolve_left z
        rw [Bool.and_eq_true] at h1
        exact mpt_plain g.ops (chk_ok a a' sc X W E q h1.2 g hp hq1) h1.1
    · cases h
  | .and es, e, sc, X, W, E, q, h, g, hp, hq => by
    unfold chkT at h
    split at h
    · rw [den]
      exact (chkBT_and es _ sc X W E q _ h g hp (fun z => by have := hq z; simpa only [Ex.qt] using this)).pt
    · cases h
  | .or es, e, sc, X, W, E, q, h, g, hp, hq => by
    unfold chkT at h
    split at h
    · rw [den]
      exact (chkBT_or es _ sc X W E q _ h g hp (fun z => by have := hq z; simpa only [Ex.qt] using this)).pt
    · cases h
  | .op o a b, e, sc, X, W, E, q, h, g, hp, hq => by
    have hq0 : q = true → a.qt = true ∧ b.qt = true := fun z => by have := hq z; simpa only [Ex.qt, Bool.and_eq_true] using this
    unfold chkT at h
    split at h
    · simp only [Bool.and_eq_true, decide_eq_true_eq] at h
      exact mpt_cmp g.ops h.1 (chk_ok a _ sc X W E a.qt h.2.1 g hp (fun z => z)) (chk_ok b _ sc X W E b.qt h.2.2.1 g hp (fun z => z)) h.2.2.2.1 (nf_of h.2.2.2.2) (fun z => (hq0 z).1) (fun z => (hq0 z).2)
    · cases h
  | .var _, _, _, _, _, _, _, h, _, _, _ => by simp [chkT] at h
  | .non, _, _, _, _, _, _, h, _, _, _ => by simp [chkT] at h
  | .bl _, _, _, _, _, _, _, h, _, _, _ => by simp [chkT] at h
  | .int _, _, _, _, _, _, _, h, _, _, _ => by simp [chkT] at h
  | .str _, _, _, _, _, _, _, h, _, _, _ => by simp [chkT] at h
  | .gl _ _, _, _, _, _, _, _, h, _, _, _ => by simp [chkT] at h
  | .neg _, _, _, _, _, _, _, h, _, _, _ => by simp [chkT] at h
  | .chain o o' a b c, e, sc, X, W, E, q, h, g, hp, hq => by
    have hq0 : q = true → a.qt = true ∧ b.qt = true ∧ c.qt = true := fun z => by have := hq z; simpa only [Ex.qt, Bool.and_eq_true] using this
    unfold chkT at h
    split at h
    · simp only [Bool.and_eq_true, decide_eq_true_eq] at h
      exact mpt_chain g.ops h.1 h.2.1 (chk_ok a _ sc X W E a.qt h.2.2.1 g hp (fun z => z)) (chk_ok b _ sc X W E b.qt h.2.2.2.1 g hp (fun z => z)) (chk_ok c _ sc X W E c.qt h.2.2.2.2.1 g hp (fun z => z)) h.2.2.2.2.2.1 (nf_of h.2.2.2.2.2.2.1) (nf_of h.2.2.2.2.2.2.2) (fun z => (hq0 z).1) (fun z => (hq0 z).2.1) (fun z => (hq0 z).2.2)
    · cases h
  | .ife _ _ _, _, _, _, _, _, _, h, _, _, _ => by simp [chkT] at h
  | .tup _, _, _, _, _, _, _, h, _, _, _ => by simp [chkT] at h
  | .fz _, _, _, _, _, _, _, h, _, _, _ => by simp [chkT] at h
  | .cl _, _, _, _, _, _, _, h, _, _, _ => by simp [chkT] at h
  | .fld _ _, _, _, _, _, _, _, h, _, _, _ => by simp [chkT] at h
  | .ix _ _, _, _, _, _, _, _, h, _, _, _ => by simp [chkT] at h
  | .sl _ _ _, _, _, _, _, _, _, h, _, _, _ => by simp [chkT] at h
  | .call _ _, _, _, _, _, _, _, h, _, _, _ => by simp [chkT] at h
  | .meth _ _ _, _, _, _, _, _, _, h, _, _, _ => by simp [chkT] at h
  | .make _ _, _, _, _, _, _, _, h, _, _, _ => by simp [chkT] at h
  | .bi _ _, _, _, _, _, _, _, h, _, _, _ => by simp [chkT] at h
  | .join _ _, _, _, _, _, _, _, h, _, _, _ => by simp [chkT] at h
  | .isx _ _ _, _, _, _, _, _, _, h, _, _, _ => by simp [chkT] at h
  | .lenO _, _, _, _, _, _, _, h, _, _, _ => by simp [chkT] at h
theorem chkB_and : ∀ (xs : Exs) (es : List Expr) (sc : Scope) (X : Cx) (W : WX) (E : Ent) (q : Bool) (pos : Pos), chkB K sc xs es = true → Gd G T K call j sc X W → PxOk G K X E → (q = true → xs.qt = true) → PE X (.BoolOp .And es pos) (rd G E W q (denAnd T call xs))
  | .nil, es, sc, X, W, E, q, pos, h, g, hp, hq => by unfold chkB at h; cases h
  | .cons a .nil, es, sc, X, W, E, q, pos, h, g, hp, hq => by
    unfold chkB at h
    split at h
    · exact mp_one (den1 := denAnd T call) (by rw [denAnd]) (chk_ok a _ sc X W E q h g hp (fun z => by have := hq z; simp only [Exs.qt, Bool.and_eq_true] at this; exact this.1))
    · cases h
  | .cons a (.cons b xs), es, sc, X, W, E, q, pos, h, g, hp, hq => by
    have hq0 : q = true → a.qt = true ∧ (Exs.cons b xs).qt = true := fun z => by have := hq z; rw [Exs.qt, Bool.and_eq_true] at this; exact this
    unfold chkB at h
    split at h
    · simp only [Bool.and_eq_true] at h
      exact mp_and (chk_ok a _ sc X W E q h.1 g hp (fun z => (hq0 z).1)) (chkB_and (.cons b xs) _ sc X W E q pos h.2 g hp (fun z => (hq0 z).2)) (fun z => z)
    · cases h
theorem chkB_or : ∀ (xs : Exs) (es : List Expr) (sc : Scope) (X : Cx) (W : WX) (E : Ent) (q : Bool) (pos : Pos), chkB K sc xs es = true → Gd G T K call j sc X W → PxOk G K X E → (q = true → xs.qt = true) → PE X (.BoolOp .Or es pos) (rd G E W q (denOr T call xs))
  | .nil, es, sc, X, W, E, q, pos, h, g, hp, hq => by unfold chkB at h; cases h
  | .cons a .nil, es, sc, X, W, E, q, pos, h, g, hp, hq => by
    unfold chkB at h
    split at h
    · exact mp_one (den1 := denOr T call) (by rw [denOr]) (chk_ok a _ sc X W E q h g hp (fun z => by have := hq z; simp only [Exs.qt, Bool.and_eq_true] at this; exact this.1))
    · cases h
  | .cons a (.cons b xs), es, sc, X, W, E, q, pos, h, g, hp, hq => by
    have hq0 : q = true → a.qt = true ∧ (Exs.cons b xs).qt = true := fun z => by have := hq z; rw [Exs.qt, Bool.and_eq_true] at this; exact this
    unfold chkB at h
    split at h
    · simp only [Bool.and_eq_true] at h
      exact mp_or (chk_ok a _ sc X W E q h.1 g hp (fun z => (hq0 z).1)) (chkB_or (.cons b xs) _ sc X W E q pos h.2 g hp (fun z => (hq0 z).2)) (fun z => z)
    · cases h
theorem chkBT_and : ∀ (xs : Exs) (es : List Expr) (sc : Scope) (X : Cx) (W : WX) (E : Ent) (q : Bool) (pos : Pos), chkBT K sc xs es = true → Gd G T K call j sc X W → PxOk G K X E → (q = true → xs.qt = true) → PW X (.BoolOp .And es pos) (rdT G E W q fun s h => (denAnd T call xs s h).bool)
  | .nil, es, sc, X, W, E, q, pos, h, g, hp, hq => by unfold chkBT at h; cases h
  | .cons a .nil, es, sc, X, W, E, q, pos, h, g, hp, hq => by
    have hq1 : q = true → a.qt = true := fun z => by have := hq z; simp only [Exs.qt, Bool.and_eq_true] at this; exact this.1
    unfold chkBT at h
    split at h
    · rename_i a'
      refine mpw_one (den1 := denAnd T call) (by rw [denAnd]) (.inl rfl) ?_
      by_cases z : chkT K sc a a' = true
      · exact chkT_ok a a' sc X W E q z g hp hq1
      · rw [Bool.or_eq_true] at h
        have h1 := h.resolve_left z
        rw [Bool.and_eq_true] at h1
        exact mpt_plain g.ops (chk_ok a a' sc X W E q h1.2 g hp hq1) h1.1
    · cases h
  | .cons a (.cons b xs), es, sc, X, W, E, q, pos, h, g, hp, hq => by
    have hq0 : q = true → a.qt = true ∧ (Exs.cons b xs).qt = true := fun z => by have := hq z; rw [Exs.qt, Bool.and_eq_true] at this; exact this
    unfold chkBT at h
    split at h
    · rename_i a' b' es'
      rw [Bool.and_eq_true] at h
      refine mpw_and ?_ (chkBT_and (.cons b xs) _ sc X W E q pos h.2 g hp (fun z => (hq0 z).2))
      by_cases z : chkT K sc a a' = true
      · exact chkT_ok a a' sc X W E q z g hp (fun z => (hq0 z).1)
      · rw [Bool.or_eq_true] at h
        have h1 := h.1.resolve_left z
        rw [Bool.and_eq_true] at h1
        exact mpt_plain g.ops (chk_ok a a' sc X W E q h1.2 g hp (fun z => (hq0 z).1)) h1.1
    · cases h
theorem chkBT_or : ∀ (xs : Exs) (es : List Expr) (sc : Scope) (X : Cx) (W : WX) (E : Ent) (q : Bool) (pos : Pos), chkBT K sc xs es = true → Gd G T K call j sc X W → PxOk G K X E → (q = true → xs.qt = true) → PW X (.BoolOp .Or es pos) (rdT G E W q fun s h => (denOr T call xs s h).bool)
  | .nil, es, sc, X, W, E, q, pos, h, g, hp, hq => by unfold chkBT at h; cases h
  | .cons a .nil, es, sc, X, W, E, q, pos, h, g, hp, hq => by
    have hq1 : q = true → a.qt = true := fun z => by have := hq z; simp only [Exs.qt, Bool.and_eq_true] at this; exact this.1
    unfold chkBT at h
    split at h
    · rename_i a'
      refine mpw_one (den1 := denOr T call) (by rw [denOr]) (.inr rfl) ?_
      by_cases z : chkT K sc a a' = true
      · exact chkT_ok a a' sc X W E q z g hp hq1
      · rw [Bool.or_eq_true] at h
        have h1 := h.resolve_left z
        rw [Bool.and_eq_true] at h1
        exact mpt_plain g.ops (chk_ok a a' sc X W E q h1.2 g hp hq1) h1.1
    · cases h
  | .cons a (.cons b xs), es, sc, X, W, E, q, pos, h, g, hp, hq => by
    have hq0 : q = true → a.qt = true ∧ (Exs.cons b xs).qt = true := fun z => by have := hq z; rw [Exs.qt, Bool.and_eq_true] at this; exact this
    unfold chkBT at h
    split at h
    · rename_i a' b' es'
      rw [Bool.and_eq_true] at h
      refine mpw_or ?_ (chkBT_or (.cons b xs) _ sc X W E q pos h.2 g hp (fun z => (hq0 z).2))
      by_cases z : chkT K sc a a' = true
      · exact chkT_ok a a' sc X W E q z g hp (fun z => (hq0 z).1)
      · rw [Bool.or_eq_true] at h
        have h1 := h.1.resolve_left z
        rw [Bool.and_eq_true] at h1
        exact mpt_plain g.ops (chk_ok a a' sc X W E q h1.2 g hp (fun z => (hq0 z).1)) h1.1
    · cases h
theorem chkA_ok : ∀ (xs : Exs) (es : List Expr) (sc : Scope) (X : Cx) (W : WX) (E : Ent) (q : Bool), chkA K sc xs es = true → Gd G T K call j sc X W → PxOk G K X E → (q = true → xs.qt = true) → PA X es (rdA G E W q (dens T call xs))
  | .nil, es, sc, X, W, E, q, h, g, hp, hq => by
    unfold chkA at h
    cases es with
    | nil => exact mpa_nil
    | cons _ _ => cases h
  | .cons a xs, es, sc, X, W, E, q, h, g, hp, hq => by
    have hq0 : q = true → a.qt = true ∧ xs.qt = true := fun z => by have := hq z; rw [Exs.qt, Bool.and_eq_true] at this; exact this
    unfold chkA at h
    split at h
    · simp only [Bool.and_eq_true] at h
      exact mpa_cons (chk_ok a _ sc X W E q h.1 g hp (fun z => (hq0 z).1)) h.2.1 (chkA_ok xs _ sc X W E q h.2.2 g hp (fun z => (hq0 z).2)) (fun z => z) (fun z => z)
    · cases h
theorem chkX_ok : ∀ (xs : Exs) (es : List Expr) (sc : Scope) (X : Cx) (W : WX) (E : Ent) (q : Bool), chkX K sc xs es = true → Gd G T K call j sc X W → PxOk G K X E → (q = true → xs.qt = true) → PA X es (rdX G E W q (denE T call xs))
  | .nil, es, sc, X, W, E, q, h, g, hp, hq => by
    unfold chkX at h
    cases es with
    | nil => exact mpx_nil
    | cons _ _ => cases h
  | .cons a xs, es, sc, X, W, E, q, h, g, hp, hq => by
    have hq0 : q = true → a.qt = true ∧ xs.qt = true := fun z => by have := hq z; rw [Exs.qt, Bool.and_eq_true] at this; exact this
    unfold chkX at h
    split at h
    · simp only [Bool.and_eq_true] at h
      exact mpx_cons (chk_ok a _ sc X W E q h.1 g hp (fun z => (hq0 z).1)) h.2.1 (chkX_ok xs _ sc X W E xs.qt h.2.2.1 g hp (fun z => z)) (nf_of h.2.2.2) (fun z => z) (fun z => (hq0 z).2)
    · cases h
theorem chkO_ok : ∀ (ex : Exo) (e : Option Expr) (sc : Scope) (X : Cx) (W : WX) (E : Ent) (q : Bool), chkO K sc ex e = true → Gd G T K call j sc X W → PxOk G K X E → (q = true → ex.qt = true) → PO X e (rdO G E W q (denO T call ex))
  | .no, e, sc, X, W, E, q, h, g, hp, hq => by
    unfold chkO at h
    cases e with
    | none => exact mpo_no
    | some _ => cases h
  | .yes a, e, sc, X, W, E, q, h, g, hp, hq => by
    unfold chkO at h
    split at h
    · exact mpo_yes (chk_ok a _ sc X W E q h g hp (fun z => by have := hq z; simpa only [Exo.qt] using this))
    · cases h
theorem chkF_ok : ∀ (f : Fx) (e : Expr) (sc : Scope) (X : Cx) (W : WX) (E : Ent) (q : Bool), chkF K sc f e = true → Gd G T K call j sc X W → PxOk G K X E → (q = true → f.qt = true) → PE X e (rdF G E W q (denF T call f))
  | .lst es, e, sc, X, W, E, q, h, g, hp, hq => by
    unfold chkF at h
    split at h
    · exact mpf_lst (chkA_ok es _ sc X W E q h g hp (fun z => by have := hq z; simpa only [Fx.qt] using this))
    · cases h
  | .dnew, e, sc, X, W, E, q, h, g, hp, hq => by
    unfold chkF at h
    split at h
    · exact mpf_dnew
    · cases h
  | .cat a b, e, sc, X, W, E, q, h, g, hp, hq => by
    have hq0 : q = true → a.qt = true ∧ b.qt = true := fun z => by have := hq z; simpa only [Fx.qt, Bool.and_eq_true] using this
    unfold chkF at h
    split at h
    · simp only [Bool.and_eq_true] at h
      exact mpf_cat g.ops (chk_ok a _ sc X W E a.qt h.1 g hp (fun z => z)) (chk_ok b _ sc X W E b.qt h.2.1 g hp (fun z => z)) (nf_of h.2.2) (fun z => (hq0 z).1) (fun z => (hq0 z).2)
    · cases h
  | .slc a lo hi, e, sc, X, W, E, q, h, g, hp, hq => by
    have hq0 : q = true → a.qt = true ∧ lo.qt = true ∧ hi.qt = true := fun z => by have := hq z; simpa only [Fx.qt, Bool.and_eq_true] using this
    unfold chkF at h
    split at h
    · simp only [Bool.and_eq_true] at h
      have nf : a.nofld = true ∨ (lo.qt = true ∧ hi.qt = true) := by simpa using h.2.2.2
      exact mpf_slc g.ops (chk_ok a _ sc X W E a.qt h.1 g hp (fun z => z)) (chkO_ok lo _ sc X W E lo.qt h.2.1 g hp (fun z => z)) (chkO_ok hi _ sc X W E hi.qt h.2.2.1 g hp (fun z => z)) nf (fun z => (hq0 z).1) (fun z => (hq0 z).2.1) (fun z => (hq0 z).2.2)
    · cases h
  | .list a, e, sc, X, W, E, q, h, g, hp, hq => by
    unfold chkF at h
    split at h
    · simp only [Bool.and_eq_true, decide_eq_true_eq] at h
      exact mpf_list g.ops h.1 (gl_of g h.2.1) (by rw [h.1]; exact g.lst) h.2.2.2 (chk_ok a _ sc X W E q h.2.2.1 g hp (fun z => by have := hq z; simpa only [Fx.qt] using this))
    · cases h
  | .comp t it c el, e, sc, X, W, E, q, h, g, hp, hq => by
    have hq0 : q = true → it.qt = true ∧ c.qt = true ∧ el.qt = true := fun z => by have := hq z; simpa only [Fx.qt, Bool.and_eq_true] using this
    unfold chkF at h
    split at h
    · simp only [Bool.and_eq_true] at h
      have ok : BlkOk X.N X.env.scope _ (ownOf K t) := blkOk_by (by rw [g.N, g.sc]; exact h.2.2.2.1)
      exact mpf_comp g.ops (g.calm h.1) g.nd (chkI_ok it _ sc X W E it.qt _ h.2.1 g hp (fun z => z)) h.2.2.1 ok own_map (fun s H C cl fp => tg_ok (g.blk s H _ C cl fp) h.2.2.2.2.1)
        (fun s H C cl fp => chkC_ok c _ _ _ E c.qt h.2.2.2.2.2.1 (g.blk s H _ C cl fp) (hp.none h.1) (fun z => z)) (fun s H C cl fp => chk_ok el _ _ _ _ E el.qt h.2.2.2.2.2.2 (g.blk s H _ C cl fp) (hp.none h.1) (fun z => z)) (fun z => (hq0 z).1) (fun z => (hq0 z).2.1) (fun z => (hq0 z).2.2)
    · cases h
  | .listD a, e, sc, X, W, E, q, h, g, hp, hq => by
    unfold chkF at h
    split at h
    · simp only [Bool.and_eq_true, decide_eq_true_eq] at h
      exact mpf_listD g.ops (g.calm h.2.2.2.2) h.1 (gl_of g h.2.1) (by rw [h.1]; exact g.lst) h.2.2.2.1 (chk_ok a _ sc X W E q h.2.2.1 g hp (fun z => by have := hq z; simpa only [Fx.qt] using this))
    · cases h
  | .compK t d c el, e, sc, X, W, E, q, h, g, hp, hq => by
    have hq0 : q = true → d.qt = true ∧ c.qt = true ∧ el.qt = true := fun z => by have := hq z; simpa only [Fx.qt, Bool.and_eq_true] using this
    unfold chkF at h
    split at h
    · simp only [Bool.and_eq_true] at h
      have ok : BlkOk X.N X.env.scope _ (ownOf K t) := blkOk_by (by rw [g.N, g.sc]; exact h.2.2.2.1)
      obtain ⟨wi, hi, hk⟩ := chkD_ok d _ sc X W E d.qt _ h.2.1 g hp (fun z => z)
      exact mpf_compK g.ops (g.calm h.1) g.nd hi hk h.2.2.1 ok own_map (fun s H C cl fp => tg_ok (g.blk s H _ C cl fp) h.2.2.2.2.1)
        (fun s H C cl fp => chkC_ok c _ _ _ E c.qt h.2.2.2.2.2.1 (g.blk s H _ C cl fp) (hp.none h.1) (fun z => z)) (fun s H C cl fp => chk_ok el _ _ _ _ E el.qt h.2.2.2.2.2.2 (g.blk s H _ C cl fp) (hp.none h.1) (fun z => z)) (fun z => (hq0 z).1) (fun z => (hq0 z).2.1) (fun z => (hq0 z).2.2)
    · cases h
  | .split a b, e, sc, X, W, E, q, h, g, hp, hq => by
    have hq0 : q = true → a.qt = true ∧ b.qt = true := fun z => by have := hq z; simpa only [Fx.qt, Bool.and_eq_true] using this
    unfold chkF at h
    split at h
    · simp only [Bool.and_eq_true, decide_eq_true_eq] at h
      exact mpf_split g.ops h.1 (chk_ok a _ sc X W E a.qt h.2.1 g hp (fun z => z)) (chk_ok b _ sc X W E b.qt h.2.2.2.1 g hp (fun z => z)) h.2.2.1 h.2.2.2.2.1 h.2.2.2.2.2 (fun z => (hq0 z).1) (fun z => (hq0 z).2)
    · cases h
theorem chkC_ok : ∀ (c : Exo) (es : List Expr) (sc : Scope) (X : Cx) (E : Ent) (q : Bool), chkC K sc c es = true → Gd G T K call j sc X (fun _ _ _ _ => False) → PxOk G K X E → (q = true → c.qt = true) → PTs X es (rdC G E q (denC T call c))
  | .no, es, sc, X, E, q, h, g, hp, hq => by
    unfold chkC at h
    cases es with
    | nil => exact mpc_no X
    | cons _ _ => cases h
  | .yes a, es, sc, X, E, q, h, g, hp, hq => by
    have hq1 : q = true → a.qt = true := fun z => by have := hq z; simpa only [Exo.qt] using this
    unfold chkC at h
    split at h
    · rename_i a'
      refine mpc_yes ?_
      by_cases z : chkT K sc a a' = true
      · exact chkT_ok a a' sc X _ E q z g hp hq1
      · rw [Bool.or_eq_true] at h
        have h1 := h.resolve_left z
        rw [Bool.and_eq_true] at h1
        exact mpt_plain g.ops (chk_ok a a' sc X _ E q h1.2 g hp hq1) h1.1
    · cases h
theorem chkI_ok : ∀ (it : Ite) (e : Expr) (sc : Scope) (X : Cx) (W : WX) (E : Ent) (q : Bool) (tg : Expr), chkI K sc it tg e = true → Gd G T K call j sc X W → PxOk G K X E → (q = true → it.qt = true) → PI X tg e (rdI G E W q (denI T call it))
  | .over a, e, sc, X, W, E, q, tg, h, g, hp, hq => by
    unfold chkI at h
    exact mpi_over g.ops (chk_ok a _ sc X W E q h g hp (fun z => by have := hq z; simpa only [Ite.qt] using this))
  | .text a, e, sc, X, W, E, q, tg, h, g, hp, hq => by
    unfold chkI at h
    exact mpi_text (chk_ok a _ sc X W E q h g hp (fun z => by have := hq z; simpa only [Ite.qt] using this))
  | .own a, e, sc, X, W, E, q, tg, h, g, hp, hq => by
    unfold chkI at h
    rw [Bool.and_eq_true] at h
    exact mpi_own g.ops g.itr (g.cal h.1).room (chk_ok a _ sc X W E q h.2 g hp (fun z => by have := hq z; simpa only [Ite.qt] using this))
  | .zip a b, e, sc, X, W, E, q, tg, h, g, hp, hq => by
    have hq0 : q = true → a.qt = true ∧ b.qt = true := fun z => by have := hq z; simpa only [Ite.qt, Bool.and_eq_true] using this
    unfold chkI at h
    split at h
    · simp only [Bool.and_eq_true, decide_eq_true_eq] at h
      cases tg with
      | Tuple elts kk tp => exact mpi_zip g.ops h.1 (gl_of g h.2.1) (by rw [h.1]; exact g.zp) h.2.2.2.1 h.2.2.2.2.2.1 (chk_ok a _ sc X W E a.qt h.2.2.1 g hp (fun z => z)) (chk_ok b _ sc X W E b.qt h.2.2.2.2.1 g hp (fun z => z)) (fun z => (hq0 z).1) (fun z => (hq0 z).2)
      | _ => have z := h.2.2.2.2.2.2; simp [isTup] at z
    · cases h
  | .range1 a, e, sc, X, W, E, q, tg, h, g, hp, hq => by
    unfold chkI at h
    split at h
    · simp only [Bool.and_eq_true, decide_eq_true_eq] at h
      exact mpi_range1 h.1 (gl_of g h.2.1) (by rw [h.1]; exact g.rng) h.2.2.2 (chk_ok a _ sc X W E q h.2.2.1 g hp (fun z => by have := hq z; simpa only [Ite.qt] using this))
    · cases h
  | .range2 a b, e, sc, X, W, E, q, tg, h, g, hp, hq => by
    have hq0 : q = true → a.qt = true ∧ b.qt = true := fun z => by have := hq z; simpa only [Ite.qt, Bool.and_eq_true] using this
    unfold chkI at h
    split at h
    · simp only [Bool.and_eq_true, decide_eq_true_eq] at h
      exact mpi_range2 h.1 (gl_of g h.2.1) (by rw [h.1]; exact g.rng) h.2.2.2.1 h.2.2.2.2.2 (chk_ok a _ sc X W E a.qt h.2.2.1 g hp (fun z => z)) (chk_ok b _ sc X W E b.qt h.2.2.2.2.1 g hp (fun z => z)) (fun z => (hq0 z).1) (fun z => (hq0 z).2)
    · cases h
theorem chkD_ok : ∀ (d : Dw) (e : Expr) (sc : Scope) (X : Cx) (W : WX) (E : Ent) (q : Bool) (tg : Expr), chkD K sc d tg e = true → Gd G T K call j sc X W → PxOk G K X E → (q = true → d.qt = true) → ∃ wi, PI X tg e wi ∧ KI G E q (denK T call d) d.its wi
  | .keys a, e, sc, X, W, E, q, tg, h, g, hp, hq => by
    unfold chkD at h
    exact ⟨_, pi_keys (chk_ok a _ sc X W E q h g hp (fun z => by have := hq z; simpa only [Dw.qt] using this)), ki_keys⟩
  | .own a, e, sc, X, W, E, q, tg, h, g, hp, hq => by
    unfold chkD at h
    rw [Bool.and_eq_true] at h
    exact ⟨_, pi_own (g.cal h.1).room (chk_ok a _ sc X W E q h.2 g hp (fun z => by have := hq z; simpa only [Dw.qt] using this)), ki_own g.ops g.itr⟩
  | .items a, e, sc, X, W, E, q, tg, h, g, hp, hq => by
    unfold chkD at h
    split at h
    · simp only [Bool.and_eq_true, decide_eq_true_eq] at h
      obtain ⟨rfl, h1, h2, h3, h4⟩ := h
      cases tg with
      | Tuple elts kk tp => exact ⟨_, pi_items (chk_ok a _ sc X W E q h1 g hp (fun z => by have := hq z; simpa only [Dw.qt] using this)) (base_of h2 _ _ _) h4, ki_items⟩
      | _ => simp [isTup] at h3
    · cases h
end
end
end MP
set_option Elab.async false
set_option linter.all false
set_option autoImplicit false
set_option maxRecDepth 100000
set_option maxHeartbeats 4000000
/-! MP, part w: the check of statements against the text, and that it holds. -/
namespace MP
open PySem PySem.Spec L2
def muName : Mu → String
  | .append => "append"
  | .extend => "extend"
def noTup : Expr → Bool
  | .Tuple .. => false
  | _ => true
/-- name = [..] on one line -/
def chkL (K : Kn) (sc : Scope) (x : Str) (py : Pos) (f : Fx) (e : Expr) : Bool := match f with
  | .comp t it c el => (match e with
    | .ListComp elt [⟨tg, iter, ifs, 0⟩] scope pos => K.calm && (decide (sc.kind = .function) && ((py.line == pos.line) && (!(scope.names.any fun (n, k) => n == x && (k == .local || k == .cell)) && (chkI K sc it tg iter && (okE iter && (blkC K.N sc scope (ownOf K t) && (chkTg K (relS scope sc) t tg && (chkC K (relS scope sc) c ifs && chk K (relS scope sc) el elt))))))))
    | _ => false)
  | .compK t d c el => (match e with
    | .ListComp elt [⟨tg, iter, ifs, 0⟩] scope pos => K.calm && (decide (sc.kind = .function) && ((py.line == pos.line) && (!(scope.names.any fun (n, k) => n == x && (k == .local || k == .cell)) && (chkD K sc d tg iter && (okE iter && (blkC K.N sc scope (ownOf K t) && (chkTg K (relS scope sc) t tg && (chkC K (relS scope sc) c ifs && chk K (relS scope sc) el elt))))))))
    | _ => false)
  | _ => false
mutual
def chkS (K : Kn) (sc : Scope) : Sx → Stmt → Bool
  | .set i e, s => (match s with
    | .Assign [.Name x _] e' _ => decide (K.N[i]? = some x) && (locC sc x && (chk K sc e e' && (okE e' && noLc e')))
    | _ => false)
  | .setOwn i f, s => (match s with
    | .Assign [.Name x py] e' _ => decide (K.N[i]? = some x) && (locC sc x && ((chkF K sc f e' && (okE e' && noLc e')) || (locB sc x && chkL K sc x py f e')))
    | _ => false)
  | .unp is e, s => (match s with
    | .Assign [.Tuple es _ _] e' _ => K.calm && (chkNs K sc is es && (chk K sc e e' && (okE e' && (noLc e' && noTup e'))))
    | _ => false)
  | .aug i o e, s => (match s with
    | .AugAssign (.Name x _) op e' _ => decide (K.N[i]? = some x) && (locB sc x && (decide (o.bin = some op) && (o.inpl && chk K sc e e')))
    | _ => false)
  | .setFld a f e, s => (match s with
    | .Assign [.Attribute a' x _] e' _ => decide (x = Str.ofString f) && (chk K sc a a' && (chk K sc e e' && (okE e' && noLc e')))
    | _ => false)
  | .augFld a f o e, s => (match s with
    | .AugAssign (.Attribute a' x _) op e' _ => decide (x = Str.ofString f) && (decide (o.bin = some op) && (o.inpl && (chk K sc a a' && chk K sc e e')))
    | _ => false)
  | .setIx a b e, s => (match s with
    | .Assign [.Subscript a' b' _] e' _ => chk K sc a a' && (chk K sc b b' && (chk K sc e e' && (okE b' && (okE e' && (noLc e' && (a.nofld || b.qt))))))
    | _ => false)
  | .delIx a b, s => (match s with
    | .Delete [.Subscript a' b' _] _ => chk K sc a a' && (chk K sc b b' && (a.nofld || b.qt))
    | _ => false)
  | .mut m a e, s => (match s with
    | .Expr (.Call (.Attribute a' x ap) [b'] [] p2) _ => decide (x = Str.ofString (muName m)) && (chk K sc a a' && (chk K sc e b' && (okE a' && (okE b' && ((a.nofld || e.qt) && (ap.endLine == p2.line))))))
    | _ => false)
  | .exp e, s => (match s with
    | .Expr e' _ => chk K sc e e' && (okE e' && noLc e')
    | _ => false)
  | .ret e, s => (match s with
    | .Return (some e') _ => chk K sc e e'
    | _ => false)
  | .retN, s => (match s with
    | .Return none _ => true
    | _ => false)
  | .ite c t u, s => (match s with
    | .If c' t' u' _ => (chkT K sc c c' || (plT c' && chk K sc c c')) && (chkSs K sc t t' && chkSs K sc u u')
    | _ => false)
  | .for t it b, s => (match s with
    | .For tg iter b' [] _ => K.calm && (chkI K sc it tg iter && (okE iter && (chkTgS K sc t tg && chkSs K sc b b')))
    | _ => false)
  | .forK t d b, s => (match s with
    | .For tg iter b' [] _ => K.calm && (chkD K sc d tg iter && (okE iter && (chkTgS K sc t tg && chkSs K sc b b')))
    | _ => false)
  | .never, _ => true
  | .whil c b, s => (match s with
    | .While c' b' [] _ => K.calm && ((chkT K sc c c' || (plT c' && chk K sc c c')) && chkSs K sc b b')
    | _ => false)
  | .brk, s => (match s with
    | .Break _ => true
    | _ => false)
  | .cnt, s => (match s with
    | .Continue _ => true
    | _ => false)
  | .pas, s => (match s with
    | .Pass _ => true
    | .Expr (.Constant (.str _) _ _) _ => true
    | _ => false)
  | .raise c, s => (match s with
    | .Raise (some (.Call (.Name x _) [.Constant (.str _) _ _] [] _)) none _ => K.calm && (decide (K.clm x = some c) && (K.rai c && (glB sc x && dbg x)))
    | _ => false)
  | .try b hs, s => (match s with
    | .Try b' hds [] [] _ => K.calm && (chkSs K sc b b' && (chkH K sc hs hds && !hds.isEmpty))
    | _ => false)
  | .freeze _, _ => false
/-- the clauses -/
def chkH (K : Kn) (sc : Scope) : Hds → List ExceptHandler → Bool
  | .nil, hds => hds.isEmpty
  | .cons d as ss hs, hds => (match hds with
    | .ExceptHandler (some (.Name x _)) n (b₀ :: suite) _ :: hds => glB sc x && (dbg x && (decide (K.clm x = some d) && (chkSs K.suite sc ss (b₀ :: suite) && (match as with
      | some i => (match n with
        | some n => decide (K.N[i]? = some n) && (locB sc n && (hds.isEmpty && (match hs with
          | .nil => true
          | _ => false)))
        | none => false)
      | none => n.isNone && (noAs hs && chkH K sc hs hds)))))
    | _ => false)
def chkSs (K : Kn) (sc : Scope) : Sxs → List Stmt → Bool
  | .nil, ss => ss.isEmpty
  | .cons (.freeze _) xs, ss => chkSs K sc xs ss
  | .cons x xs, ss => (match ss with
    | s :: ss' => chkS K sc x s && chkSs K sc xs ss'
    | [] => false)
end
section
variable {G : Gb} {T : Tb} {K : Kn} {call : Nat → List MV → MH → Res MV} {j : Nat} {Wn : Nat} {sc : Scope} {X : Cx} {W : WX}
theorem tst_ok (g : Gd G T K call j sc X W) {c : Ex} {c' : Expr} {E : Ent} (hp : PxOk G K X E) (h : (chkT K sc c c' || (plT c' && chk K sc c c')) = true) : PT X c' (rdT G E W c.qt fun s h => (den T call c s h).bool) := by
  by_cases z : chkT K sc c c' = true
  · exact chkT_ok c c' sc X W E c.qt z g hp (fun z => z)
  · rw [Bool.or_eq_true] at h
    have h1 := h.resolve_left z
    rw [Bool.and_eq_true] at h1
    exact mpt_plain g.ops (chk_ok c c' sc X W E c.qt h1.2 g hp (fun z => z)) h1.1
theorem stores_none {e : Expr} (h : noTup e = true) (t : List Expr) (env : Env) : swappedStores t e env = pure none := by
  unfold swappedStores
  cases e with
  | Tuple => cases h
  | _ => split <;> first | rfl | (split at * <;> simp_all)
theorem lc_ok (g : Gd G T K call j sc X W) {i : Nat} {x : Str} {py spos : Pos} {f : Fx} {e : Expr} {E : Ent} (hp : PxOk G K X E) (hi : K.N[i]? = some x) (hx : locB sc x = true) (h : chkL K sc x py f e = true) : PS X (.Assign [.Name x py] e spos) (rdS G E W (exec T call Wn (.setOwn i f))) := by
  cases f with
  | comp t it c el =>
    unfold chkL at h
    dsimp only at h
    split at h
    · rename_i elt tg iter ifs scope pos
      rw [Bool.and_eq_true] at h
      obtain ⟨h0, h⟩ := h
      rw [Bool.and_eq_true] at h
      obtain ⟨h1, h⟩ := h
      rw [Bool.and_eq_true] at h
      obtain ⟨h2, h⟩ := h
      rw [Bool.and_eq_true] at h
      obtain ⟨h3, h⟩ := h
      rw [Bool.and_eq_true] at h
      obtain ⟨h4, h⟩ := h
      rw [Bool.and_eq_true] at h
      obtain ⟨h5, h⟩ := h
      rw [Bool.and_eq_true] at h
      obtain ⟨h6, h⟩ := h
      rw [Bool.and_eq_true] at h
      obtain ⟨h7, h⟩ := h
      rw [Bool.and_eq_true] at h
      obtain ⟨h8, h9⟩ := h
      have ok : BlkOk X.N X.env.scope scope (ownOf K t) := blkOk_by (by rw [g.N, g.sc]; exact h6)
      have hl := loc_of g hx
      have hsw : swapsWith (.ListComp elt [⟨tg, iter, ifs, 0⟩] scope pos) (some (.Name x py)) spos.line X.env = pure true := sw_true (by rw [g.sc]; exact of_decide_eq_true h1) hl h2 (by simpa using h3)
      refine (ps_setLc (g.calm h0) g.nd (by rw [g.N]; exact hi) hl hsw (chkI_ok (E := E) it _ sc X W it.qt tg h4 g hp (fun z => z)) ok (fun s H C cl fp => tg_ok (E := E) (g.blk s H _ C cl fp) h7)
        (fun s H C cl fp => chkC_ok c _ _ _ E c.qt h8 (g.blk s H _ C cl fp) (hp.none h0) (fun z => z)) (fun s H C cl fp => chk_ok el _ _ _ _ E el.qt h9 (g.blk s H _ C cl fp) (hp.none h0) (fun z => z)) (fold_of h5 X.env)).imp fun D σ H z => ?_
      exact lc_imp (q := false) own_map (fun z => by cases z) (fun z => by cases z) (fun z => by cases z) (own_imp z)
    · cases h
  | compK t d c el =>
    unfold chkL at h
    dsimp only at h
    split at h
    · rename_i elt tg iter ifs scope pos
      rw [Bool.and_eq_true] at h
      obtain ⟨h0, h⟩ := h
      rw [Bool.and_eq_true] at h
      obtain ⟨h1, h⟩ := h
      rw [Bool.and_eq_true] at h
      obtain ⟨h2, h⟩ := h
      rw [Bool.and_eq_true] at h
      obtain ⟨h3, h⟩ := h
      rw [Bool.and_eq_true] at h
      obtain ⟨h4, h⟩ := h
      rw [Bool.and_eq_true] at h
      obtain ⟨h5, h⟩ := h
      rw [Bool.and_eq_true] at h
      obtain ⟨h6, h⟩ := h
      rw [Bool.and_eq_true] at h
      obtain ⟨h7, h⟩ := h
      rw [Bool.and_eq_true] at h
      obtain ⟨h8, h9⟩ := h
      have ok : BlkOk X.N X.env.scope scope (ownOf K t) := blkOk_by (by rw [g.N, g.sc]; exact h6)
      have hl := loc_of g hx
      have hsw : swapsWith (.ListComp elt [⟨tg, iter, ifs, 0⟩] scope pos) (some (.Name x py)) spos.line X.env = pure true := sw_true (by rw [g.sc]; exact of_decide_eq_true h1) hl h2 (by simpa using h3)
      obtain ⟨wi, hi', hk⟩ := chkD_ok (E := E) d _ sc X W d.qt tg h4 g hp (fun z => z)
      refine (ps_lock (ps_setLc (g.calm h0) g.nd (by rw [g.N]; exact hi) hl hsw hi' ok (fun s H C cl fp => tg_ok (E := E) (g.blk s H _ C cl fp) h7)
        (fun s H C cl fp => chkC_ok c _ _ _ E c.qt h8 (g.blk s H _ C cl fp) (hp.none h0) (fun z => z)) (fun s H C cl fp => chk_ok el _ _ _ _ E el.qt h9 (g.blk s H _ C cl fp) (hp.none h0) (fun z => z)) (fold_of h5 X.env))).imp fun D σ H z => ?_
      exact compK_imp (q := false) hk own_map (fun z => by cases z) (fun z => by cases z) (fun z => by cases z) (own_imp z)
    · cases h
  | _ => cases h
/-- what a loop asks of the context -/
structure Po (K : Kn) (X : Cx) : Prop where
  own : K.calm = true → PassesOwn (model X.prog X.w) X.A X.env X.xe
  stk : X.stack = X.env :: X.outer
  frm : X.env.frame = some X.env.locals
  fn : ∀ x, X.fn x = true
theorem Po.suite {K : Kn} {X : Cx} (po : Po K X) (a : Addr) (pn : List (Addr × Obj)) : Po K.suite (X.suite a pn) := ⟨fun z => (by cases z), po.stk, po.frm, po.fn⟩
theorem Po.tr {K : Kn} {X : Cx} (po : Po K X) {pn : List (Addr × Obj)} {xe : Value → Shared → Prop} (h : PassesOwn (model X.prog X.w) X.A X.env xe) : Po K (X.tr pn xe) := ⟨fun _ => h, po.stk, po.frm, po.fn⟩
theorem px_exc {G : Gb} {K : Kn} {X : Cx} {E : Ent} {a : Addr} {oe : Obj} {c : Nat} {pn : List (Addr × Obj)} (hz : Zc (G.cv c) none oe) (hf : ∃ vs, oe.data = .fields vs) : PxOk G K.suite (X.suite a ((a, oe) :: pn)) (E.exc a c) := fun a' c' z => by
  obtain ⟨rfl, rfl⟩ := z
  exact ⟨rfl, X, oe, pn, rfl, hz, hf⟩
end
section
variable {G : Gb} {T : Tb} {call : Nat → List MV → MH → Res MV} {j : Nat} {Wn : Nat}
mutual
theorem chkS_ok : ∀ (sx : Sx) (s : Stmt) (K : Kn) (sc : Scope) (X : Cx) (W : WX) (E : Ent), chkS K sc sx s = true → Gd G T K call j sc X W → PxOk G K X E → Po K X → PS X s (rdS G E W (exec T call Wn sx))
  | .set i e, s, K, sc, X, W, E, h, g, hp, po => by
    unfold chkS at h
    split at h
    · simp only [Bool.and_eq_true, decide_eq_true_eq] at h
      exact mps_set g.nd (by rw [g.N]; exact h.1) (locC_of g h.2.1) (po.fn _) (chk_ok e _ sc X W E e.qt h.2.2.1 g hp (fun z => z)) h.2.2.2.1 h.2.2.2.2
    · cases h
  | .setOwn i f, s, K, sc, X, W, E, h, g, hp, po => by
    unfold chkS at h
    split at h
    · rename_i x py e' pos
      rw [Bool.and_eq_true, Bool.and_eq_true] at h
      obtain ⟨h1, h2, h3⟩ := h
      by_cases z : (chkF K sc f e' && (okE e' && noLc e')) = true
      · simp only [Bool.and_eq_true] at z
        exact mps_own g.nd (by rw [g.N]; exact of_decide_eq_true h1) (locC_of g h2) (po.fn _) (chkF_ok f _ sc X W E f.qt z.1 g hp (fun z => z)) z.2.1 z.2.2
      · rw [Bool.or_eq_true] at h3
        have h4 := h3.resolve_left z
        rw [Bool.and_eq_true] at h4
        exact lc_ok g hp (of_decide_eq_true h1) h4.1 h4.2
    · cases h
  | .unp is e, s, K, sc, X, W, E, h, g, hp, po => by
    unfold chkS at h
    split at h
    · simp only [Bool.and_eq_true] at h
      exact mps_unp g.ops (g.calm h.1) g.nd (names_of g h.2.1) (chk_ok e _ sc X W E e.qt h.2.2.1 g hp (fun z => z)) h.2.2.2.1 h.2.2.2.2.1 (stores_none h.2.2.2.2.2 _ _)
    · cases h
  | .aug i o e, s, K, sc, X, W, E, h, g, hp, po => by
    unfold chkS at h
    split at h
    · simp only [Bool.and_eq_true, decide_eq_true_eq] at h
      exact mps_aug g.nd h.2.2.1 h.2.2.2.1 (by rw [g.N]; exact h.1) (loc_of g h.2.1) (chk_ok e _ sc X W E e.qt h.2.2.2.2 g hp (fun z => z))
    · cases h
  | .setFld a f e, s, K, sc, X, W, E, h, g, hp, po => by
    unfold chkS at h
    split at h
    · simp only [Bool.and_eq_true, decide_eq_true_eq] at h
      exact mps_fld g.ops g.tb h.1 (chk_ok a _ sc X W E a.qt h.2.1 g hp (fun z => z)) (chk_ok e _ sc X W E e.qt h.2.2.1 g hp (fun z => z)) h.2.2.2.1 h.2.2.2.2
    · cases h
  | .augFld a f o e, s, K, sc, X, W, E, h, g, hp, po => by
    unfold chkS at h
    split at h
    · simp only [Bool.and_eq_true, decide_eq_true_eq] at h
      exact mps_fldaug g.ops g.tb h.2.1 h.2.2.1 h.1 (chk_ok a _ sc X W E a.qt h.2.2.2.1 g hp (fun z => z)) (chk_ok e _ sc X W E e.qt h.2.2.2.2 g hp (fun z => z))
    · cases h
  | .setIx a b e, s, K, sc, X, W, E, h, g, hp, po => by
    unfold chkS at h
    split at h
    · simp only [Bool.and_eq_true] at h
      exact mps_setIx g.ops (chk_ok a _ sc X W E a.qt h.1 g hp (fun z => z)) (chk_ok b _ sc X W E b.qt h.2.1 g hp (fun z => z)) (chk_ok e _ sc X W E e.qt h.2.2.1 g hp (fun z => z)) h.2.2.2.1 h.2.2.2.2.1 h.2.2.2.2.2.1 (nf_of h.2.2.2.2.2.2)
    · cases h
  | .delIx a b, s, K, sc, X, W, E, h, g, hp, po => by
    unfold chkS at h
    split at h
    · simp only [Bool.and_eq_true] at h
      exact mps_delIx (chk_ok a _ sc X W E a.qt h.1 g hp (fun z => z)) (chk_ok b _ sc X W E b.qt h.2.1 g hp (fun z => z)) (nf_of h.2.2)
    · cases h
  | .mut m a e, s, K, sc, X, W, E, h, g, hp, po => by
    unfold chkS at h
    split at h
    · simp only [Bool.and_eq_true, decide_eq_true_eq] at h
      exact mps_mut g.ops (m := m) (by rw [h.1]; cases m <;> rfl) (chk_ok a _ sc X W E a.qt h.2.1 g hp (fun z => z)) (chk_ok e _ sc X W E e.qt h.2.2.1 g hp (fun z => z)) h.2.2.2.1 h.2.2.2.2.1 (nf_of h.2.2.2.2.2.1) h.2.2.2.2.2.2
    · cases h
  | .exp e, s, K, sc, X, W, E, h, g, hp, po => by
    unfold chkS at h
    split at h
    · simp only [Bool.and_eq_true] at h
      exact mps_exp (chk_ok e _ sc X W E e.qt h.1 g hp (fun z => z)) h.2.1 h.2.2
    · cases h
  | .ret e, s, K, sc, X, W, E, h, g, hp, po => by
    unfold chkS at h
    split at h
    · exact mps_ret (chk_ok e _ sc X W E e.qt h g hp (fun z => z))
    · cases h
  | .retN, s, K, sc, X, W, E, h, g, hp, po => by
    unfold chkS at h
    split at h
    · exact mps_retN
    · cases h
  | .ite c t u, s, K, sc, X, W, E, h, g, hp, po => by
    unfold chkS at h
    split at h
    · rw [Bool.and_eq_true, Bool.and_eq_true] at h
      exact mps_ite (tst_ok g hp h.1) (chkSs_ok t _ K sc X W E h.2.1 g hp po) (chkSs_ok u _ K sc X W E h.2.2 g hp po)
    · cases h
  | .for t it b, s, K, sc, X, W, E, h, g, hp, po => by
    unfold chkS at h
    split at h
    · simp only [Bool.and_eq_true] at h
      exact mps_for g.ops (g.calm h.1) (po.own h.1) (chkI_ok it _ sc X W E it.qt _ h.2.1 g hp (fun z => z)) h.2.2.1 (fun E' => tgS_ok g po.fn h.2.2.2.1) (fun kk => chkSs_ok b _ K sc X W (E.pin kk) h.2.2.2.2 g hp po)
    · cases h
  | .forK t d b, s, K, sc, X, W, E, h, g, hp, po => by
    unfold chkS at h
    split at h
    · simp only [Bool.and_eq_true] at h
      obtain ⟨wi, hi, hk⟩ := chkD_ok (E := E) d _ sc X W d.qt _ h.2.1 g hp (fun z => z)
      exact mps_forK g.ops (g.calm h.1) (po.own h.1) hi hk h.2.2.1 (fun E' => tgS_ok g po.fn h.2.2.2.1) (fun k1 k2 => chkSs_ok b _ K sc X W ((E.pin k1).pin k2) h.2.2.2.2 g hp po)
    · cases h
  | .never, s, K, sc, X, W, E, h, g, hp, po => ps_never.imp fun D σ H ⟨L, lam, σm, h, p, z⟩ => by rw [exec] at z; exact z.elim
  | .whil c b, s, K, sc, X, W, E, h, g, hp, po => by
    unfold chkS at h
    split at h
    · rw [Bool.and_eq_true, Bool.and_eq_true] at h
      exact mps_while (po.own h.1) (tst_ok g hp h.2.1) (chkSs_ok b _ K sc X W E h.2.2 g hp po)
    · cases h
  | .brk, s, K, sc, X, W, E, h, g, hp, po => by
    unfold chkS at h
    split at h
    · exact mps_brk
    · cases h
  | .cnt, s, K, sc, X, W, E, h, g, hp, po => by
    unfold chkS at h
    split at h
    · exact mps_cnt
    · cases h
  | .pas, s, K, sc, X, W, E, h, g, hp, po => by
    unfold chkS at h
    split at h
    · exact mps_pass
    · exact mps_doc
    · cases h
  | .raise c, s, K, sc, X, W, E, h, g, hp, po => by
    unfold chkS at h
    split at h
    · simp only [Bool.and_eq_true, decide_eq_true_eq] at h
      exact mps_raise g.ops (g.calm h.1) g.tk g.ex (g.rai _ h.2.2.1) (gl_of g h.2.2.2.1) (g.clm _ _ h.2.1) (dbg_of h.2.2.2.2).1
    · cases h
  | .try b hs, s, K, sc, X, W, E, h, g, hp, po => by
    unfold chkS at h
    split at h
    · rename_i b' hds p
      simp only [Bool.and_eq_true] at h
      obtain ⟨hc, h1, h2, h3⟩ := h
      have hb : ∀ (W : WX) (pn : List (Addr × Obj)) (xe : Value → Shared → Prop), Takes (X.tr pn xe) W → PassesOwn (model X.prog X.w) X.A X.env xe → PSs (X.tr pn xe) b' (rdS G E W (execs T call Wn b)) := fun W pn xe tk ho =>
        chkSs_ok b b' K sc (X.tr pn xe) W E h1 (g.tr tk) (hp.none hc) (po.tr ho)
      exact chkH_ok hs hds K sc X W E b b' p h2 (by intro z; rw [z] at h3; cases h3) g hp po hc hb
    · cases h
  | .freeze i, s, K, sc, X, W, E, h, g, hp, po => by unfold chkS at h; cases h
theorem chkH_ok : ∀ (hs : Hds) (hds : List ExceptHandler) (K : Kn) (sc : Scope) (X : Cx) (W : WX) (E : Ent) (b : Sxs) (b' : List Stmt) (pos : Pos), chkH K sc hs hds = true → hds ≠ [] → Gd G T K call j sc X W → PxOk G K X E → Po K X → K.calm = true →
    (∀ (W : WX) (pn : List (Addr × Obj)) (xe : Value → Shared → Prop), Takes (X.tr pn xe) W → PassesOwn (model X.prog X.w) X.A X.env xe → PSs (X.tr pn xe) b' (rdS G E W (execs T call Wn b))) →
    PS X (.Try b' hds [] [] pos) (rdS G E W (exec T call Wn (.try b hs)))
  | .nil, hds, K, sc, X, W, E, b, b', pos, h, hne, g, hp, po, hc, hb => by
    unfold chkH at h
    cases hds with
    | nil => exact absurd rfl hne
    | cons _ _ => cases h
  | .cons d as ss hs, hds, K, sc, X, W, E, b, b', pos, h, hne, g, hp, po, hc, hb => by
    unfold chkH at h
    split at h
    · rename_i x np n b₀ suite pos' hds
      cases as with
      | some i =>
        cases n with
        | none => simp at h
        | some n =>
          simp only [Bool.and_eq_true, decide_eq_true_eq] at h
          obtain ⟨h1, h2, h3, h4, h5, h6, h7, h8⟩ := h
          cases hds with
          | cons _ _ => cases h7
          | nil =>
            cases hs with
            | cons _ _ _ _ => cases h8
            | nil =>
              exact mps_try_as g.ops g.ex po.stk po.frm g.nd (by rw [g.N]; exact h5) (loc_of g h6) ⟨gl_of g h1, (dbg_of h2).1, .inl (g.clm _ _ h3)⟩ g.tk hb fun a oe c pn hz hf =>
                chkSs_ok ss (b₀ :: suite) K.suite sc (X.suite a ((a, oe) :: pn)) _ (E.exc a c) h4 (g.suite a _) (px_exc hz hf) (po.suite a _)
      | none =>
        simp only [Bool.and_eq_true, decide_eq_true_eq] at h
        obtain ⟨h1, h2, h3, h4, h5, h7, h6⟩ := h
        have hn : n = none := by simpa using h5
        subst hn
        have na : noAs (.cons d none ss hs) = true := by unfold noAs; rw [h7]; rfl
        exact mps_try_many g.ops g.ex po.stk po.frm na g.tk hb (.cons ⟨gl_of g h1, (dbg_of h2).1, .inl (g.clm _ _ h3)⟩ (fun a oe cls d pn hz hf =>
          chkSs_ok ss (b₀ :: suite) K.suite sc (X.suite a ((a, oe) :: pn)) _ E h4 (g.suite a _) (fun a' c' z => absurd (hp a' c' z).1 (by rw [hc]; simp)) (po.suite a _)) (chkHm_ok hs hds K sc X W E h7 h6 g hp po hc))
    · cases h
theorem chkHm_ok : ∀ (hs : Hds) (hds : List ExceptHandler) (K : Kn) (sc : Scope) (X : Cx) (W : WX) (E : Ent), noAs hs = true → chkH K sc hs hds = true → Gd G T K call j sc X W → PxOk G K X E → Po K X → K.calm = true → HdsOk X hds (cls G E T call Wn hs)
  | .nil, hds, K, sc, X, W, E, na, h, g, hp, po, hc => by
    unfold chkH at h
    cases hds with
    | nil => exact .nil
    | cons _ _ => cases h
  | .cons d as ss hs, hds, K, sc, X, W, E, na, h, g, hp, po, hc => by
    unfold chkH at h
    split at h
    · rename_i x np n b₀ suite pos' hds
      cases as with
      | some i => unfold noAs at na; cases na
      | none =>
        simp only [Bool.and_eq_true, decide_eq_true_eq] at h
        obtain ⟨h1, h2, h3, h4, h5, h7, h6⟩ := h
        have hn : n = none := by simpa using h5
        subst hn
        exact .cons ⟨gl_of g h1, (dbg_of h2).1, .inl (g.clm _ _ h3)⟩ (fun a oe cls d pn hz hf =>
          chkSs_ok ss (b₀ :: suite) K.suite sc (X.suite a ((a, oe) :: pn)) _ E h4 (g.suite a _) (fun a' c' z => absurd (hp a' c' z).1 (by rw [hc]; simp)) (po.suite a _)) (chkHm_ok hs hds K sc X W E h7 h6 g hp po hc)
    · cases h
theorem chkSs_ok : ∀ (sx : Sxs) (ss : List Stmt) (K : Kn) (sc : Scope) (X : Cx) (W : WX) (E : Ent), chkSs K sc sx ss = true → Gd G T K call j sc X W → PxOk G K X E → Po K X → PSs X ss (rdS G E W (execs T call Wn sx))
  | .nil, ss, K, sc, X, W, E, h, g, hp, po => by
    unfold chkSs at h
    cases ss with
    | nil => exact mps_nil
    | cons _ _ => cases h
  | .cons x xs, ss, K, sc, X, W, E, h, g, hp, po => by
    by_cases fz : ∃ i, x = .freeze i
    · obtain ⟨i, rfl⟩ := fz
      unfold chkSs at h
      exact mps_freeze (chkSs_ok xs ss K sc X W E h g hp po)
    · cases ss with
      | nil => exfalso; cases x <;> first | exact fz ⟨_, rfl⟩ | (unfold chkSs at h; exact Bool.noConfusion h)
      | cons s ss =>
        have h' : (chkS K sc x s && chkSs K sc xs ss) = true := by
          cases x <;> first | exact absurd ⟨_, rfl⟩ fz | (unfold chkSs at h; exact h)
        rw [Bool.and_eq_true] at h'
        exact mps_cons (chkS_ok x s K sc X W E h'.1 g hp po) (chkSs_ok xs ss K sc X W E h'.2 g hp po)
end
end
end MP
set_option Elab.async false
set_option linter.all false
set_option autoImplicit false
set_option maxRecDepth 100000
set_option maxHeartbeats 4000000
/-! MP, part x: a def of the text keeps its promise. -/
namespace MP
open PySem PySem.Spec L2
/-! ### how the parameters are bound -/
theorem lookup_zip {α : Type} {n : Str} : ∀ {ps : List Str} {us : List α}, us.length = ps.length → n ∈ ps → ((ps.zip us).lookup n).isSome = true
  | p :: ps, u :: us, hl, hn => by
    rw [List.zip_cons_cons, List.lookup_cons]
    cases e : n == p with
    | true => rfl
    | false =>
      have : n ≠ p := by simpa using e
      exact lookup_zip (by simpa using hl) ((List.mem_cons.mp hn).resolve_left this)
  | [], _, _, hn => by cases hn
  | _ :: _, [], hl, _ => by simp at hl
theorem binds_zip {α : Type} : ∀ {ps : List Str} {us : List α}, us.length = ps.length → ps.Nodup → (ps.filterMap fun n => ((ps.zip us).lookup n).map fun v => (n, v)) = ps.zip us := by
  have gen : ∀ {qs : List Str} {ps : List Str} {us : List α} {base : List (Str × α)}, us.length = ps.length → ps.Nodup → (∀ n ∈ ps, base.lookup n = none) → (ps.filterMap fun n => ((base ++ ps.zip us).lookup n).map fun v => (n, v)) = ps.zip us := by
    intro qs ps
    induction ps with
    | nil => intro us base _ _ _; rfl
    | cons p ps ih =>
      intro us base hl nd hb
      cases us with
      | nil => simp at hl
      | cons u us =>
        have hp : (base ++ (p :: ps).zip (u :: us)).lookup p = some u := by
          have : ∀ {b : List (Str × α)}, b.lookup p = none → (b ++ (p :: ps).zip (u :: us)).lookup p = some u := by
            intro b
            induction b with
            | nil => intro _; simp [List.lookup_cons]
            | cons q b ih =>
              intro h
              obtain ⟨k, v⟩ := q
              rw [List.lookup_cons] at h
              rw [List.cons_append, List.lookup_cons]
              cases e : p == k with
              | true => rw [e] at h; cases h
              | false => rw [e] at h; exact ih h
          exact this (hb p List.mem_cons_self)
        rw [List.filterMap_cons, hp]
        show (p, u) :: _ = _
        rw [List.zip_cons_cons]
        congr 1
        have := ih (us := us) (base := base ++ [(p, u)]) (by simpa using hl) (List.nodup_cons.mp nd).2 (fun n hn => by
          have hne : n ≠ p := fun z => (List.nodup_cons.mp nd).1 (z ▸ hn)
          have : ∀ {b : List (Str × α)}, b.lookup n = none → (b ++ [(p, u)]).lookup n = none := by
            intro b
            induction b with
            | nil => intro _; rw [List.nil_append, List.lookup_cons, beq_eq_false_iff_ne.mpr hne]; rfl
            | cons q b ih =>
              intro h
              obtain ⟨k, v⟩ := q
              rw [List.lookup_cons] at h
              rw [List.cons_append, List.lookup_cons]
              cases e : n == k with
              | true => rw [e] at h; cases h
              | false => rw [e] at h; exact ih h
          exact this (hb n (List.mem_cons_of_mem _ hn)))
        rw [List.append_assoc] at this
        exact this
  intro ps us hl nd
  exact gen (qs := []) (base := []) hl nd fun _ _ => rfl
theorem bind_plain {name qual : Str} {args : List Arg} {kd : List (Option Expr)} {ds : List Expr} {body : List Stmt} {scope : Scope} {kV doc pm cdv ct : Value} {an : Option Addr} {us : List Value} (nd : (args.map (·.arg)).Nodup) (hl : us.length = (args.map (·.arg)).length) :
    bindArgs (PySem.W.fnOf name qual ⟨[], args, none, [], kd, none, ds⟩ body scope .none kV doc pm an cdv ct) ⟨us, []⟩ = pure ((args.map (·.arg)).zip us) := by
  unfold bindArgs
  have h1 : ¬ (us.length > (args.map (·.arg)).length ∧ True) := by omega
  have hm : ((args.map (·.arg)).filter fun n => (((args.map (·.arg)).zip us).lookup n).isNone) = [] := by
    rw [List.filter_eq_nil_iff]
    intro n hn
    have := lookup_zip (us := us) hl hn
    cases e : ((args.map (·.arg)).zip us).lookup n with
    | none => rw [e] at this; cases this
    | some v => simp
  have hs : seqItems? Value.none = pure none := rfl
  have hz : (args.map (·.arg)).filterMap (fun n => (((args.map (·.arg)).zip us).lookup n).map fun x => (n, x)) = (args.map (·.arg)).zip us := binds_zip hl nd
  simp only [PySem.W.fnOf, List.map_nil, List.nil_append, List.append_nil, hl, hs, List.forIn_nil, pure_bind, Option.getD_none, List.drop_nil, List.length_nil, Nat.sub_zero, List.take_length, hm, List.zip_nil_right, List.drop_length, gt_iff_lt, Nat.lt_irrefl, decide_false, Bool.false_and, Bool.false_eq_true, if_false, List.isEmpty_nil, Bool.not_true, hz]
end MP
set_option Elab.async false
set_option linter.all false
set_option autoImplicit false
set_option maxRecDepth 100000
set_option maxHeartbeats 4000000
/-! MP, part y: checked defs keep their promises, by the fuel. -/
namespace MP
open PySem PySem.Spec L2
/-- a def: its names (the parameters first), its body -/
structure Fi where
  N : List Str
  df : Df
def fscB (N ps : List Str) (sc : Scope) : Bool := decide (sc.kind = .function) && (!sc.isCoroutine && (!sc.isGenerator && (decide N.Nodup && (decide (N.take ps.length = ps) && (ps.all (fun x => match sc.names.lookup x with
  | some .local => true
  | some .cell => true
  | _ => false) && sc.names.all fun y => decide (y.2 ≠ .free))))))
theorem fsc_ok {N ps : List Str} {sc : Scope} (h : fscB N ps sc = true) : FnScope N ps sc := by
  unfold fscB at h
  simp only [Bool.and_eq_true, decide_eq_true_eq, Bool.not_eq_true', List.all_eq_true] at h
  obtain ⟨h1, h2, h3, h4, h5, h6, h7⟩ := h
  refine ⟨h1, h2, h3, h4, h5, fun x hx => ?_, h7⟩
  have := h6 x hx
  split at this
  · exact .inl (by assumption)
  · exact .inr (by assumption)
  · cases this
/-- a checked def of the text at a -/
def chkFn (F : PySem.W.Frag) (K : Kn) (a : Addr) (d : Fi) : Bool := match F.lookup a with
  | some o => (match o.data with
    | .func fd => (match fd.body with
      | .stmts b => fd.params.posonlyargs.isEmpty && (fd.params.vararg.isNone && (fd.params.kwonlyargs.isEmpty && (fd.params.kwarg.isNone && (decide (fd.globals = mainGlobals) && (fd.closure.isEmpty && (decide (fd.defaults = .none) && (decide (fd.builtins = builtinsNs) &&
        (PySem.W.codeIn F fd.code fd.qualname && (PySem.W.keepIn F (.ref a) && (decide ((fd.params.args.map (·.arg)).length = d.df.k) && (decide (d.N.length = d.df.n) && (!d.df.fz && (fscB d.N (fd.params.args.map (·.arg)) fd.scope && chkSs { K with N := d.N } fd.scope d.df.body b)))))))))))))
      | _ => false)
    | _ => false)
  | none => false
/-- an __iter__ that hands out the iterator of the field F -/
def chkIt (F : PySem.W.Frag) (a : Addr) (f : Str) : Bool := match F.lookup a with
  | some o => (match o.data with
    | .func fd => (match fd.body with
      | .stmts b => fd.params.posonlyargs.isEmpty && (fd.params.vararg.isNone && (fd.params.kwonlyargs.isEmpty && (fd.params.kwarg.isNone && (decide (fd.globals = mainGlobals) && (fd.closure.isEmpty && (decide (fd.defaults = .none) && (decide (fd.builtins = builtinsNs) &&
        (PySem.W.codeIn F fd.code fd.qualname && (decide (fd.params.args.map (·.arg) = ([("self" : Str)] : List Str)) && (fscB ["self"] ["self"] fd.scope && iterTxt f fd))))))))))
      | _ => false)
    | _ => false)
  | none => false
theorem chkIt_ok {K : PySem.W.Frag} {mg : Str → Option Value} {C f : Addr} {F : Str} (h : chkIt K f F = true) (cl : Cls K C) (na : NoAttr K C F) (me : Meth K C "__iter__" f) (mi : mg "iter" = none) : ItFn K mg C f F := by
  refine ⟨cl, na, me.at_, me.fn, mi, ?_⟩
  unfold chkIt at h
  cases hl : K.lookup f with
  | none => rw [hl] at h; cases h
  | some o =>
    rw [hl] at h
    obtain ⟨oc, od, dt, osl⟩ := o
    dsimp only at h
    cases dt with
    | func fd =>
      dsimp only at h
      obtain ⟨name, qual, ⟨po, args, va, ko, kd, ka, ds⟩, fb, scope, gb, clo, dV, kV, doc, pm, an, cdv, ct, blt⟩ := fd
      dsimp only at h
      cases fb with
      | stmts b =>
        dsimp only at h
        simp only [Bool.and_eq_true, decide_eq_true_eq, List.isEmpty_iff, Option.isNone_iff_eq_none] at h
        obtain ⟨rfl, rfl, rfl, rfl, rfl, rfl, rfl, rfl, hcd, hp, hsc, ht⟩ := h
        refine ⟨oc, od, osl, name, qual, _, b, scope, _, _, _, _, _, _, _, rfl, hcd, fsc_ok hsc, ?_, ?_⟩
        · rw [← hp]
          exact Binds.all fun us hu => bind_plain (by rw [hp]; decide) hu
        · unfold iterTxt at ht
          dsimp only at ht
          split at ht
          · rename_i g p1 sf p2 F' p3 p4 p5 eb
            simp only [Bool.and_eq_true, decide_eq_true_eq] at ht
            obtain ⟨rfl, rfl, rfl, hg⟩ := ht
            cases eb
            exact ⟨p1, p2, p3, p4, p5, rfl, hg⟩
          · cases ht
      | _ => cases h
    | _ => cases h
/-- what a law's text gives -/
structure Lw (P : Program) (w : World) (mg : Str → Option Value) (G : Gb) (T : Tb) (K : Kn) (tab : Nat → Option Fi) : Prop where
  kd : KdOk G w
  tb : TbOk G T
  is : TbIs G T
  gl : ∀ x v, K.gl x = some v → ∃ u y, RelV y u ∧ (∀ L b, VR G L b v y) ∧ (x == ("__debug__" : Str)) = false ∧ (mg x = some u ∨ (mg x = none ∧ bootBuiltins x = some u ∧ x ≠ "__name__"))
  fnm : ∀ x f, K.fnm x = some f → mg x = some (.ref (G.fa f))
  clm : ∀ x c, K.clm x = some c → mg x = some (.ref (G.ca c))
  ini : ∀ c, K.init c = true → ∃ f, T.init c = some f
  bl : ∀ b : Bi, mg (Str.ofString b.name) = none
  rng : mg "range" = none
  lst : mg "list" = none
  zp : mg "zip" = none
  has : ∀ f, K.has f = true → ∃ d, tab f = some d
  tmeth : ∀ c m f, T.meth c m = some f → ∃ d, tab f = some d
  tinit : ∀ c f, T.init c = some f → ∃ d, tab f = some d
  ex : TbEx G T
  itr : TbIt G T mg
  rai : ∀ c, K.rai c = true → T.rai c = true
  chk : ∀ f d, tab f = some d → chkFn G.K K (G.fa f) d = true
def fnsOf (tab : Nat → Option Fi) : Nat → Option Df := fun f => (tab f).map (·.df)
/-- .. at a fuel -/
def FnAll (P : Program) (w : World) (mg : Str → Option Value) (base : Heap) (G : Gb) (tab : Nat → Option Fi) (call : Nat → List MV → MH → Res MV) (j : Nat) : Prop :=
  ∀ f d, tab f = some d → ∃ fd ps, FnOk P w G.K mg base (L2.CX P w) j (G.fa f) fd ps (spEv G (call f)) ∧ Binds G.K fd ps [] ∧ PySem.W.keepIn G.K (.ref (G.fa f)) = true ∧ ps = d.N.take d.df.k ∧ (∃ oc od osl, G.K.lookup (G.fa f) = some ⟨oc, od, .func fd, osl⟩) ∧ ∀ us : List Value, us.length = ps.length → bindArgs fd ⟨us, []⟩ = pure (ps.zip us)
section
variable {P : Program} {w : World} {mg : Str → Option Value} {base : Heap} {G : Gb} {T : Tb} {K : Kn} {tab : Nat → Option Fi} {Wn : Nat}
theorem start_pt {L : Lay} {h : MH} {H : Hp} {xs : List MV} {vs : List V} {N : List Str} {n : Nat} (r : HR G L h H) (rv : VRs G L h.length xs vs) (hn : N.length = n) :
    Pt G ⟨L, h, H, fun _ _ => False, fun _ => False⟩ L (fun _ => none) (xs.map .val ++ List.replicate (n - xs.length) .un) h (L2.start N vs) H := by
  have hl := rv.length
  refine ⟨.refl r, ⟨?_, fun i v x e1 e2 => ?_, fun i j c d a e1 _ _ _ => ?_⟩, fun i c a e1 _ => ?_, fun _ z => z.elim⟩
  · unfold L2.start; simp [hl, hn]
  · by_cases hi : i < xs.length
    · rw [List.getElem?_append_left (by simpa using hi), List.getElem?_map] at e1
      unfold L2.start at e2
      rw [List.getElem?_append_left (by rw [List.length_map, ← hl]; exact hi), List.getElem?_map] at e2
      cases ex : xs[i]? with
      | none => rw [ex] at e1; cases e1
      | some m =>
        rw [ex] at e1; cases e1
        obtain ⟨u, f1, f2⟩ := rv.get ex
        rw [f1] at e2; cases e2
        exact ⟨u, rfl, f2⟩
    · rw [List.getElem?_append_right (by simpa using hi), List.getElem?_replicate] at e1
      split at e1
      · cases e1; trivial
      · cases e1
  all_goals
    by_cases hi : i < xs.length
    · rw [List.getElem?_append_left (by simpa using hi), List.getElem?_map] at e1
      cases ex : xs[i]? with
      | none => rw [ex] at e1; cases e1
      | some m => rw [ex] at e1; cases e1
    · rw [List.getElem?_append_right (by simpa using hi), List.getElem?_replicate] at e1
      split at e1 <;> cases e1
theorem fn_step (l : Lw P w mg G T K tab) {call : Nat → List MV → MH → Res MV} {j : Nat} {call' : Nat → List MV → MH → Res MV} (ih : (∃ f xs h, call' f xs h ≠ .bad) → FnAll P w mg base G tab call j)
    (hc : ∀ f d, tab f = some d → ∀ xs h, call' f xs h ≠ .bad → call' f xs h = if xs.length = d.df.k then (match execs T call Wn d.df.body (xs.map .val ++ List.replicate (d.df.n - d.df.k) .un) h with
      | .nx _ h1 => .ok .non h1
      | .rt v h1 => .ok v h1
      | .exc c _ h1 => .exc c h1
      | _ => .bad) else .bad) : FnAll P w mg base G tab call' (j + 2) := by
  intro f d hd
  have hk := l.chk f d hd
  unfold chkFn at hk
  cases hl : G.K.lookup (G.fa f) with
  | none => rw [hl] at hk; cases hk
  | some o =>
    rw [hl] at hk
    obtain ⟨oc, od, dt, osl⟩ := o
    dsimp only at hk
    cases dt with
    | func fd =>
      dsimp only at hk
      obtain ⟨name, qual, ⟨po, args, va, ko, kd, ka, ds⟩, fb, scope, gb, clo, dV, kV, doc, pm, an, cdv, ct, blt⟩ := fd
      dsimp only at hk
      cases fb with
      | stmts b =>
        dsimp only at hk
        simp only [Bool.and_eq_true, decide_eq_true_eq, List.isEmpty_iff, Option.isNone_iff_eq_none, Bool.not_eq_true'] at hk
        obtain ⟨rfl, rfl, rfl, rfl, rfl, rfl, rfl, rfl, hcd, hkeep, hpk, hNn, hfz, hsc, hbody⟩ := hk
        have S := fsc_ok hsc
        have len : ∀ vs H Q E, spEv G (call' f) vs H Q E → vs.length = (args.map (·.arg)).length := fun vs H Q E ⟨L, h, xs, r, rv, z⟩ => by
          have nb : call' f xs h ≠ .bad := fun e => by rw [e] at z; exact z
          rw [hc f d hd _ _ nb] at z
          obtain ⟨c, _⟩ := post_if z
          rw [← rv.length, c, hpk]
        refine ⟨_, args.map (·.arg), fn_of (k := j + 1) (N := d.N) hl hcd S len fun A outer s H vs Q E hr hsp => ?_, ?_, hkeep, ?_, ⟨oc, od, osl, rfl⟩, ?_⟩
        · obtain ⟨L, h, xs, r, rv, z⟩ := hsp
          have nb : call' f xs h ≠ .bad := fun e => by rw [e] at z; exact z
          have ih := ih ⟨f, xs, h, nb⟩
          rw [hc f d hd _ _ nb] at z
          obtain ⟨c, z⟩ := post_if z
          have tk : Takes (cxOf (L2.CX P w) P w G.K mg base d.N qual scope (G.fa f) cdv A outer s H E) (fun cls dd _ H => E cls dd H) := takes_of rfl rfl rfl rfl
          have at_of : ∀ {g : Nat} {d' : Fi}, (∃ fd ps, FnOk P w G.K mg base (L2.CX P w) j (G.fa g) fd ps (spEv G (call g)) ∧ Binds G.K fd ps [] ∧ PySem.W.keepIn G.K (.ref (G.fa g)) = true ∧ ps = d'.N.take d'.df.k ∧ (∃ oc od osl, G.K.lookup (G.fa g) = some ⟨oc, od, .func fd, osl⟩) ∧ ∀ us : List Value, us.length = ps.length → bindArgs fd ⟨us, []⟩ = pure (ps.zip us)) → FnAt G (cxOf (L2.CX P w) P w G.K mg base d.N qual scope (G.fa f) cdv A outer s H E) j call g := fun ⟨fd, ps, F, b, k, _⟩ => ⟨fd, ps, F, b, k⟩
          have po : Po { K with N := d.N } (cxOf (L2.CX P w) P w G.K mg base d.N qual scope (G.fa f) cdv A outer s H E) := ⟨fun _ => passes_of rfl, rfl, rfl, fun _ => rfl⟩
          have gd : Gd G T { K with N := d.N } call j scope (cxOf (L2.CX P w) P w G.K mg base d.N qual scope (G.fa f) cdv A outer s H E) (fun cls dd _ H => E cls dd H) :=
            { ops := ⟨rfl, l.kd, by have := hr.un; show (A.deeper (PyProof.Rows.envOfC qual scope s.heap.objs.size (G.fa f) cdv)).units + 65 < cLine; omega⟩
              tb := l.tb, is := l.is, nd := S.nd, N := rfl, sc := rfl, gl := l.gl, fnm := l.fnm, clm := l.clm, ini := l.ini, bl := l.bl, rng := l.rng, lst := l.lst, zp := l.zp
              cal := fun _ => ⟨fun g hg => (l.has g hg).elim fun d' hd' => at_of (ih g d' hd'), fun c m g hg => (l.tmeth c m g hg).elim fun d' hd' => at_of (ih g d' hd'), fun c g hg => (l.tinit c g hg).elim fun d' hd' => at_of (ih g d' hd'), hr⟩
              calm := fun _ => rfl, ex := l.ex, rai := l.rai
              tk := tk, itr := l.itr }
          refine ⟨_, chkSs_ok (Wn := Wn) d.df.body b { K with N := d.N } scope _ _ ⟨L, h, H, fun _ _ => False, fun _ => False⟩ hbody gd (fun _ _ z => z.elim) po, ?_⟩
          refine ⟨L, fun _ => none, _, h, start_pt r rv hNn, ?_⟩
          rw [c]
          cases er : execs T call Wn d.df.body (xs.map .val ++ List.replicate (d.df.n - d.df.k) .un) h with
          | nx σ1 h1 => rw [er] at z; exact fun L1 lam1 σ2 H1 p => z L1 H1 .non p.stp .non
          | rt v h1 => rw [er] at z; exact fun L1 H1 x s1 _ r1 => z L1 H1 x s1 r1
          | exc c σ1 h1 => rw [er] at z; exact fun L1 lam1 σ2 H1 p => z L1 H1 p.stp
          | bk σ1 h1 => rw [er] at z; exact z.elim
          | ct σ1 h1 => rw [er] at z; exact z.elim
          | bad => rw [er] at z; exact z.elim
        · exact Binds.all fun us hu => bind_plain (by have := S.nd; rw [← S.pre]; exact this.sublist (List.take_sublist _ _)) hu
        · rw [← hpk]; exact S.pre.symm
        · exact fun us hu => bind_plain (by have := S.nd; rw [← S.pre]; exact this.sublist (List.take_sublist _ _)) hu
      | _ => cases hk
    | _ => cases hk
theorem chk_fz (l : Lw P w mg G T K tab) {f : Nat} {d : Fi} (hd : tab f = some d) : d.df.fz = false := by
  have hk := l.chk f d hd
  unfold chkFn at hk
  cases hl : G.K.lookup (G.fa f) with
  | none => rw [hl] at hk; cases hk
  | some o =>
    rw [hl] at hk
    obtain ⟨oc, od, dt, osl⟩ := o
    dsimp only at hk
    cases dt with
    | func fd =>
      dsimp only at hk
      obtain ⟨name, qual, ⟨po, args, va, ko, kd, ka, ds⟩, fb, scope, gb, clo, dV, kV, doc, pm, an, cdv, ct, blt⟩ := fd
      dsimp only at hk
      cases fb with
      | stmts b =>
        dsimp only at hk
        simp only [Bool.and_eq_true, Bool.not_eq_true'] at hk
        exact hk.2.2.2.2.2.2.2.2.2.2.2.2.1
      | _ => cases hk
    | _ => cases hk
/-- every checked def keeps its promise, at every fuel -/
theorem fn_all (l : Lw P w mg G T K tab) : ∀ n, FnAll P w mg base G tab (callF T Wn (fnsOf tab) n) (2 * n)
  | 0 => fun f d hd => by
    obtain ⟨fd, ps, F, b, k, e1, e2, e3⟩ := fn_step (P := P) (w := w) (base := base) (Wn := Wn) l (call := fun _ _ _ => .bad) (j := 0) (call' := fun _ _ _ => .bad) (fun ⟨_, _, _, h⟩ => absurd rfl h) (fun _ _ _ _ _ h => absurd rfl h) f d hd
    exact ⟨fd, ps, ⟨fun vs H Q E ⟨_, _, _, _, _, z⟩ => z.elim, fun A outer s H args us vs Q E _ _ _ _ ⟨_, _, _, _, _, z⟩ => z.elim⟩, b, k, e1, e2, e3⟩
  | n + 1 => by
    have e : 2 * (n + 1) = 2 * n + 2 := by omega
    rw [e]
    refine fn_step l (Wn := Wn) (fun _ => fn_all l n) fun f d hd xs h _ => ?_
    have hf : fnsOf tab f = some d.df := by unfold fnsOf; rw [hd]; rfl
    have e1 : callF T Wn (fnsOf tab) (n + 1) f xs h = if xs.length = d.df.k then (match execs T (callF T Wn (fnsOf tab) n) Wn d.df.body (xs.map .val ++ List.replicate (d.df.n - d.df.k) .un) h with
      | .nx _ h1 => .ok .non h1
      | .rt v h1 => if d.df.fz then (match v with
        | .ref m => if m = h.length then (match frzTop h h1 with
          | some v => .ok v h
          | none => .bad) else .bad
        | _ => .bad) else .ok v h1
      | .exc c _ h1 => .exc c h1
      | _ => .bad) else .bad := by
      rw [callF]
      dsimp only
      rw [hf]
      first | done | rfl
    rw [e1, chk_fz l hd]
    generalize callF T Wn (fnsOf tab) n = call
    by_cases c : xs.length = d.df.k
    · rw [if_pos c, if_pos c]
      cases execs T call Wn d.df.body (xs.map .val ++ List.replicate (d.df.n - d.df.k) .un) h <;> rfl
    · rw [if_neg c, if_neg c]
end
end MP
set_option Elab.async false
set_option linter.all false
set_option autoImplicit false
set_option maxRecDepth 100000
set_option maxHeartbeats 4000000
/-! MP, part z: a law's end. -/
namespace MP
open PySem PySem.Spec L2
theorem kl_vals {G : Gb} {L : Lay} {b : Nat} : ∀ ns : List Int, VRs G L b (ns.map .int) (ns.map V.int)
  | [] => .nil
  | n :: ns => .cons (.int n) (kl_vals ns)
/-- the law's own promise -/
theorem sp_law {G : Gb} {m : List MV → MH → Res MV} {H : Hp} {a : Addr} {ns : List Int} {h' : MH} (hO : Only H) (hS : SqL G.K H a (ns.map V.int)) (hm : m [.kl (ns.map .int)] [] = .ok (.bl true) h') : spEv G m [.ref a] H (fun v _ => v = .bl true) (fun _ _ _ => False) := by
  have no : ∀ {x : Addr}, (none : Option Addr) = some x → False := fun e => nomatch e
  have r : HR G ⟨fun _ => none, fun _ _ => none, H⟩ [] H := ⟨fun _ _ e => e, fun _ _ e => (no e).elim, fun _ _ _ e => (no e).elim, fun _ _ _ e => (no e).elim, fun _ _ _ _ _ e => (no e).elim, fun _ _ _ _ e => (no e).elim, fun _ _ e => (no e).elim, fun _ _ _ e => (no e).elim, fun n c e => by simp at e⟩
  refine ⟨_, [], [.kl (ns.map .int)], r, .cons (.kl ?_ (kl_vals ns)) .nil, ?_⟩
  · rcases hS with (h | ⟨o, h⟩) | h
    · rcases hO a with z | ⟨o, xs, z⟩
      · rw [z] at h; cases h
      · rw [z] at h; cases h
    · exact .inl ⟨o, h⟩
    · exact .inr h
  · rw [hm]
    exact fun L' H' x _ k => by cases k; rfl
theorem FnOk_cx {P : Program} {w : World} {K : PySem.W.Frag} {mg : Str → Option Value} {base : Heap} {CX CX' : CXT} {k : Nat} {f : Addr} {fd : FuncData} {ps : List Str} {sp : Sp} (hc : ∀ outer H s E u s', CX outer H s E u s' → CX' outer H s E u s') (F : FnOk P w K mg base CX k f fd ps sp) : FnOk P w K mg base CX' k f fd ps sp :=
  ⟨F.len, fun A outer s H args us vs Q E hr e0 hb r hsp => codeAny_mono (F.run A outer s H args us vs Q E hr e0 hb r hsp) fun rr s' hq => by
    cases rr with
    | error e => exact hc _ _ _ _ _ _ hq
    | ok fl => cases fl <;> exact hq⟩
/-- THE END: where a law's text is checked and its meaning is True at every script -/
theorem law_end {l : PySem.W.OpenLaw} {n N lf Wn : Nat} {q : Program} {loose : List Str} {XP : (Str → Option Value) → Heap → Prop} {YP : World → Heap → Prop} {d : DefRec} {x : Str}
    (hn : l.most = some n) (hn2 : n ≤ sizeLine) (hdf : d.params.defaults = []) (hr : Room (2 * N) callerA)
    (F : ∀ (w : World) (mg : Str → Option Value) (fa : Addr) (h : Heap), YP w h → h.Ns mainGlobals mg → mg d.name = some (.ref fa) →
      ∃ (G : Gb) (T : Tb) (K : Kn) (tab : Nat → Option Fi) (d' : Fi), G.K.In h ∧ Lw l.prog w mg G T K tab ∧ G.fa lf = fa ∧ tab lf = some d' ∧ d'.N.take d'.df.k = [x] ∧
        ∀ ns : List Int, ns.length ≤ n → ∃ h', callF T Wn (fnsOf tab) N lf [.kl (ns.map .int)] [] = .ok (.bl true) h') :
    PySem.W.WalkO q loose XP YP l.row.toRowW d [] (fun f vs => PySem.call f vs) := by
  refine walk_ofE (l := l) (n := n) (k := 2 * N) (x := x) (d := d) hn hn2 hdf hr (CX := fun outer H s E u s' => ∃ w, L2.CX l.prog w outer H s E u s') (fun w mg fa h Y hN hmg => ?_) fun H s e s' z => ?_
  · obtain ⟨G, T, K, tab, d', KX, lw, hfa, hd, hx, plain⟩ := F w mg fa h Y hN hmg
    subst hfa
    obtain ⟨fd, ps, _, _, _, eps, ⟨c1, c2, c3, lk⟩, hb⟩ := fn_all (base := h) (Wn := Wn) lw N lf d' hd
    have ep : ps = [x] := eps.trans hx
    subst ep
    refine ⟨G.K, fd, spEv G (callF T Wn (fnsOf tab) N lf), KX, fun s u => BindsTo.of_eq (hb [u] rfl), fun H a ns hl hO hS => ?_, fun base KB NB => ?_⟩
    · obtain ⟨h', e⟩ := plain ns hl
      exact sp_law hO hS e
    · obtain ⟨fd2, ps2, F2, _, _, eps2, ⟨_, _, _, lk2⟩, _⟩ := fn_all (base := base) (Wn := Wn) lw N lf d' hd
      rw [lk] at lk2
      cases lk2
      have ep2 : ps2 = [x] := eps2.trans hx
      subst ep2
      exact FnOk_cx (fun _ _ _ _ _ _ z => ⟨w, z⟩) F2
  · obtain ⟨w, a, B, H', cls, dd, _, _, _, _, _, _, _, w⟩ := z
    exact w
end MP
set_option Elab.async false
set_option linter.all false
set_option autoImplicit false
set_option maxRecDepth 100000
set_option maxHeartbeats 4000000
/-! MQ, part a: what the head tells of a law's text. -/
namespace MP
open PySem PySem.Spec L2
/-! ### constants -/
mutual
/-- the value of the top that a constant is -/
def gvB (K : PySem.W.Frag) : MV → Value → Bool
  | .non, u => (match u with
    | .none => true
    | _ => false)
  | .bl b, u => (match u with
    | .bool c => decide (b = c)
    | _ => false)
  | .int i, u => (match u with
    | .int j _ => decide (i = j)
    | _ => false)
  | .str s, u => (match u with
    | .str t _ => decide (s = t)
    | _ => false)
  | .tup xs, u => (match u with
    | .ref a => (match K.lookup a with
      | some o => decide (o.cls = .type "tuple") && (match o.data with
        | .seq its _ => decide (its.size ≤ sizeLine) && gvBs K xs its.toList
        | _ => false)
      | none => false)
    | _ => false)
  | _, _ => false
def gvBs (K : PySem.W.Frag) : List MV → List Value → Bool
  | [], us => us.isEmpty
  | x :: xs, us => (match us with
    | u :: us => gvB K x u && gvBs K xs us
    | [] => false)
end
def gvBd (K : PySem.W.Frag) : List Str → List MV → List DictEntry → Bool
  | [], [], [] => true
  | k :: ks, x :: xs, e :: es => (match e.key with
    | .str s _ => decide (s = k) && (gvB K x e.val && gvBd K ks xs es)
    | _ => false)
  | _, _, _ => false
/-- the module's dicts with text keys -/
def kdP (K : PySem.W.Frag) (w : World) (a : Addr) (ks : List Key) (ys : List V) : Prop := ∃ es n, KDict K w a es n ∧ (∀ k ∈ ks, ∃ z, k = .inr z) ∧ ∀ z : Str, (valV (ks.zip ys) (.inr z : Key) = none → PySem.W.nsIn K a z = some none) ∧
  ∀ y, valV (ks.zip ys) (.inr z : Key) = some y → ∃ u0, PySem.W.nsIn K a z = some (some u0) ∧ RelV y u0
section
variable {G : Gb}
mutual
theorem gvB_ok : ∀ (v : MV) (u : Value), gvB G.K v u = true → ∃ y, RelV y u ∧ ∀ L b, VR G L b v y
  | .non, u, h => by
    unfold gvB at h
    split at h
    · exact ⟨.non, rfl, fun _ _ => .non⟩
    · cases h
  | .bl b, u, h => by
    unfold gvB at h
    split at h
    · have e := of_decide_eq_true h; subst e; exact ⟨.bl b, rfl, fun _ _ => .bl b⟩
    · cases h
  | .int b, u, h => by
    unfold gvB at h
    split at h
    · have e := of_decide_eq_true h; subst e; exact ⟨.int b, ⟨_, rfl⟩, fun _ _ => .int b⟩
    · cases h
  | .str b, u, h => by
    unfold gvB at h
    split at h
    · have e := of_decide_eq_true h; subst e; exact ⟨.str b, ⟨_, rfl⟩, fun _ _ => .str b⟩
    · cases h
  | .tup xs, u, h => by
    unfold gvB at h
    split at h
    · rename_i a
      split at h
      · rename_i o ho
        rw [Bool.and_eq_true] at h
        obtain ⟨h1, h2⟩ := h
        split at h2
        · rename_i its n hd
          rw [Bool.and_eq_true] at h2
          obtain ⟨ys, r, k⟩ := gvBs_ok xs its.toList h2.2
          exact ⟨.ref a, rfl, fun L b => .tup (.inr ⟨o, its, n, ho, of_decide_eq_true h1, hd, of_decide_eq_true h2.1, r⟩) (k L b)⟩
        · cases h2
      · cases h
    · cases h
  | .lst _, _, h => by simp [gvB] at h
  | .dct _ _, _, h => by simp [gvB] at h
  | .ins _ _ _, _, h => by simp [gvB] at h
  | .ref _, _, h => by simp [gvB] at h
  | .fn _, _, h => by simp [gvB] at h
  | .cls _, _, h => by simp [gvB] at h
  | .ty _, _, h => by simp [gvB] at h
  | .kl _, _, h => by simp [gvB] at h
theorem gvBs_ok : ∀ (vs : List MV) (us : List Value), gvBs G.K vs us = true → ∃ ys, Vals ys us ∧ ∀ L b, VRs G L b vs ys
  | [], us, h => by
    unfold gvBs at h
    cases us with
    | nil => exact ⟨[], .nil, fun _ _ => .nil⟩
    | cons _ _ => cases h
  | v :: vs, us, h => by
    unfold gvBs at h
    cases us with
    | nil => cases h
    | cons u us =>
      dsimp only at h
      rw [Bool.and_eq_true] at h
      obtain ⟨y, r, k⟩ := gvB_ok v u h.1
      obtain ⟨ys, rs, ks⟩ := gvBs_ok vs us h.2
      exact ⟨y :: ys, .cons r rs, fun L b => .cons (k L b) (ks L b)⟩
end
theorem gvBd_ok : ∀ {ks : List Str} {vs : List MV} {es : List DictEntry}, gvBd G.K ks vs es = true → ∃ ys, ks.length = ys.length ∧ (∀ L b, VRs G L b vs ys) ∧ (es.any (·.refKey)) = false ∧
    ∀ z : Str, (match es.find? (·.key.isStr z) with
      | some e => ∃ y, valV ((ks.map Sum.inr).zip ys) (Sum.inr z : Key) = some y ∧ RelV y e.val
      | none => valV ((ks.map Sum.inr).zip ys) (Sum.inr z : Key) = none)
  | [], [], [], _ => ⟨[], rfl, fun _ _ => .nil, rfl, fun _ => rfl⟩
  | k :: ks, v :: vs, e :: es, h => by
    unfold gvBd at h
    split at h
    · rename_i s t hk
      simp only [Bool.and_eq_true, decide_eq_true_eq] at h
      obtain ⟨rfl, h2, h3⟩ := h
      obtain ⟨y, r, q⟩ := gvB_ok v e.val h2
      obtain ⟨ys, hl, rs, ra, rf⟩ := gvBd_ok h3
      refine ⟨y :: ys, by simp [hl], fun L b => .cons (q L b) (rs L b), ?_, fun z => ?_⟩
      · rw [List.any_cons, ra]
        unfold DictEntry.refKey
        rw [hk]; rfl
      · rw [List.find?_cons]
        have ei : e.key.isStr z = (s == z) := by rw [hk]; rfl
        rw [ei]
        by_cases c : s = z
        · subst c
          rw [beq_self_eq_true]
          exact ⟨y, valV_pos (p := ((Sum.inr s : Key), y)) rfl, r⟩
        · rw [beq_eq_false_iff_ne.mpr c]
          have e2 : valV (((s :: ks).map Sum.inr).zip (y :: ys)) (Sum.inr z : Key) = valV ((ks.map Sum.inr).zip ys) (Sum.inr z : Key) := valV_neg (p := ((Sum.inr s : Key), y)) (fun w => c (Sum.inr.inj w))
          rw [e2]
          exact rf z
    · cases h
  | [], [], _ :: _, h => by cases h
  | [], _ :: _, _, h => by cases h
  | _ :: _, [], _, h => by cases h
  | _ :: _, _ :: _, [], h => by cases h
/-- a dict of the top -/
def gdB (K : PySem.W.Frag) (ks : List Str) (vs : List MV) (a : Addr) : Bool := match K.lookup a with
  | some o => (match o.data with
    | .dict es _ => gvBd K ks vs es.toList
    | _ => false)
  | none => false
theorem gdB_ok {w : World} {ks : List Str} {vs : List MV} {a : Addr} (h : gdB G.K ks vs a = true) (hd : He.dicW G.K a = some (He.keysIn w.params ks)) : ∃ ys, kdP G.K w a (ks.map Sum.inr) ys ∧ (ks.map (Sum.inr : Str → Key)).length = ys.length ∧ ∀ L b, VRs G L b vs ys := by
  obtain ⟨es, n, D⟩ := He.dicW_ok hd
  unfold gdB at h
  rw [D.at_] at h
  obtain ⟨ys, hl, rs, ra, rf⟩ := gvBd_ok h
  have look : ∀ z : Str, PySem.W.nsIn G.K a z = (match es.toList.find? (·.key.isStr z) with
      | some e => some (some e.val)
      | none => some none) := fun z => by
    unfold PySem.W.nsIn
    rw [D.at_]
    dsimp only
    rw [ra]
    rfl
  refine ⟨ys, ⟨es, n, D, fun k hk => ?_, fun z => ?_⟩, by simp [hl], rs⟩
  · obtain ⟨z, _, rfl⟩ := List.mem_map.mp hk
    exact ⟨z, rfl⟩
  · have f := rf z
    rw [look]
    cases e : es.toList.find? (·.key.isStr z) with
    | none =>
      rw [e] at f
      exact ⟨fun _ => rfl, fun y hy => by rw [f] at hy; cases hy⟩
    | some en =>
      rw [e] at f
      obtain ⟨y, f1, f2⟩ := f
      exact ⟨fun hn => (by rw [f1] at hn; cases hn), fun y' hy => ⟨en.val, rfl, by rw [f1] at hy; cases hy; exact f2⟩⟩
end
end MP
set_option Elab.async false
set_option linter.all false
set_option autoImplicit false
set_option maxRecDepth 100000
set_option maxHeartbeats 4000000
/-! MQ, part b: the head's Hook for a text of functions, classes, exceptions and constants; what follows of it. -/
namespace MP
open PySem PySem.Spec L2
/-- a class: an exception with its ancestors (itself among them), or a class with methods, __init__, fields -/
structure Cd where
  name : Str
  exc : Bool := false
  sup : List Nat := []
  init : Option Nat := none
  meths : List (String × Nat) := []
  flds : List String := []
  /-- the field that the own __iter__ walks -/
  iter : Option String := none
/-- a law's text: the functions' places and data, the classes, the constants, the dicts, the built-in types that stand as values, the names that the module does not bind -/
structure Ld where
  fns : List (Str × Option Str)
  fis : List Fi
  cls : List Cd := []
  gls : List (Str × MV) := []
  dcs : List (Str × List Str × List MV) := []
  tys : List String := []
  frees : List Str := []
def Ld.cn (d : Ld) (x : Str) : Option Nat := d.cls.findIdx? (fun y => y.name == x)
def Ld.gl (d : Ld) (x : Str) : Option MV := match d.gls.lookup x with
  | some v => some v
  | none => (match d.dcs.lookup x with
    | some (ks, vs) => some (.dct (ks.map Sum.inr) vs)
    | none => (match d.tys.find? (fun t => decide (Str.ofString t = x)) with
      | some t => some (.ty t)
      | none => (match d.cn x with
        | some c => some (.cls c)
        | none => none)))
def Ld.kn (d : Ld) : Kn := ⟨[], d.gl, fun x => d.fns.findIdx? (fun y => y == (x, none)), d.cn, fun f => decide (f < d.fis.length), fun c => (match d.cls[c]? with
    | some k => !k.exc && k.init.isSome
    | none => false), true, fun c => (match d.cls[c]? with
    | some k => k.exc
    | none => false)⟩
def Ld.tab (d : Ld) : Nat → Option Fi := fun f => d.fis[f]?
def baseTys : List String := ["int", "str", "tuple", "bool", "list", "dict"]
def baseKds : List String := ["NoneType", "bool", "int", "str", "tuple", "list", "dict"]
def Ld.tb (d : Ld) : Tb where
  meth := fun c m => (d.cls[c]?).bind fun k => if k.exc then none else k.meths.lookup m
  init := fun c => (d.cls[c]?).bind fun k => if k.exc then none else k.init
  fld := fun c f => match d.cls[c]? with
    | some k => !k.exc && k.flds.contains f
    | none => false
  sub := fun c e => (d.cls[c]?).bind fun k => (d.cls[e]?).bind fun k' => if k.exc || k'.exc then none else some (decide (c = e))
  isa := fun c t => (d.cls[c]?).bind fun k => if k.exc || !baseTys.contains t then none else some false
  own := fun c => decide (c < d.cls.length)
  iter := fun c => (d.cls[c]?).bind fun k => if k.exc then none else k.iter
  exs := fun c e => (d.cls[c]?).bind fun k => (d.cls[e]?).bind fun k' => if k.exc && k'.exc then some (k.sup.contains e) else none
  exa := fun c t => (d.cls[c]?).bind fun k => if k.exc && t == "ValueError" then some true else none
  rai := fun c => match d.cls[c]? with
    | some k => k.exc
    | none => false
def Ld.caK (d : Ld) (K : PySem.W.Frag) : Nat → Addr := fun c => match d.cls[c]? with
  | some k => He.ga K k.name
  | none => 0
def Ld.faK (d : Ld) (K : PySem.W.Frag) : Nat → Addr := fun f => match d.fns[f]? with
  | some p => He.fAd K p
  | none => 0
def Ld.gb (d : Ld) (K : PySem.W.Frag) (w : World) : Gb := ⟨K, d.faK K, d.caK K, fun c => .ref (d.caK K c), kdP K w⟩
def insB (K : PySem.W.Frag) (C : Addr) : Bool := He.eqO (PySem.W.findIn K (.ref C) "__class__") (some (some (.builtin "object.__class__"))) && (He.eqO (PySem.W.specialIn K (.builtin "object.__class__") "__get__") (some (some (.builtin "getset_descriptor.__get__"))) &&
  (decide (PySem.W.takesIn K (.builtin "object.__class__") = some true) && decide (PySem.W.mroIn K C (.type "object") = some true)))
def excB (K : PySem.W.Frag) (D : Addr) : Bool := He.eqO (PySem.W.findIn K (.ref D) "__getattribute__") (some (some (.builtin "BaseException.__getattribute__"))) && (He.eqO (PySem.W.findIn K (.ref D) "__getattr__") (some none) && (decide (PySem.W.subIn K (.ref D) (.type "BaseException") = some true) && (PySem.W.hasDictIn K D && insB K D)))
/-- what is looked at of a class -/
def Ld.okC (d : Ld) (K : PySem.W.Frag) (k : Cd) (c : Nat) : Bool := He.eqO (PySem.W.nsIn K mainGlobals k.name) (some (some (.ref (He.ga K k.name)))) && (dbg k.name &&
  ((baseKds.all fun n => decide (PySem.W.kitOne K (.type n) (.ref (He.ga K k.name)) = some false)) &&
  (if k.exc then (He.Fa.exc k.name).ok K && (excB K (He.ga K k.name) && (decide (PySem.W.kitOne K (.ref (He.ga K k.name)) (.type "ValueError") = some true) &&
      ((d.cls.zipIdx).all fun p => !p.1.exc || (decide (PySem.W.kitOne K (.ref (He.ga K k.name)) (.ref (He.ga K p.1.name)) = some (k.sup.contains p.2)) && decide (PySem.W.exmOne K (.ref (He.ga K k.name)) (.ref (He.ga K p.1.name)) = some (k.sup.contains p.2))))))
    else (He.Fa.cls k.name).ok K && ((k.flds.all fun f => (He.Fa.noat k.name f).ok K) && ((k.meths.all fun m => (He.Fa.meth k.name m.1).ok K && (decide (d.fns[m.2]? = some (k.name, some (Str.ofString m.1))) && decide (m.2 < d.fis.length))) &&
      ((match k.init with
        | some f => (He.Fa.mkr k.name).ok K && (decide (d.fns[f]? = some (k.name, some ("__init__" : Str))) && decide (f < d.fis.length))
        | none => true) && (insB K (He.ga K k.name) && ((baseTys.all fun t => decide (PySem.W.kitOne K (.ref (He.ga K k.name)) (.type t) = some false)) &&
      (((d.cls.zipIdx).all fun p => p.1.exc || decide (PySem.W.kitOne K (.ref (He.ga K k.name)) (.ref (He.ga K p.1.name)) = some (decide (c = p.2)))) && (match k.iter with
        | some F => (He.Fa.noat k.name F).ok K && ((He.Fa.meth k.name "__iter__").ok K && chkIt K (He.fAd K (k.name, some "__iter__")) (Str.ofString F))
        | none => true))))))))))
/-- what is looked at -/
def Ld.ok (d : Ld) (K : PySem.W.Frag) : Bool :=
  ((d.fns.zip d.fis).all fun p => chkFn K d.kn (He.fAd K p.1) p.2) && (decide (d.fns.length = d.fis.length) &&
  ((d.fns.all fun p => (match p.2 with
    | none => He.eqO (PySem.W.nsIn K mainGlobals p.1) (some (some (.ref (He.ga K p.1))))
    | some _ => true)) &&
  ((d.gls.all fun p => dbg p.1 && (match PySem.W.nsIn K mainGlobals p.1 with
    | some (some u) => gvB K p.2 u
    | _ => false)) &&
  ((d.dcs.all fun p => dbg p.1 && (He.eqO (PySem.W.nsIn K mainGlobals p.1) (some (some (.ref (He.ga K p.1)))) && gdB K p.2.1 p.2.2 (He.ga K p.1))) &&
  ((d.tys.all fun t => decide (bootBuiltins (Str.ofString t) = some (.type t)) && (dbg (Str.ofString t) && (decide (Str.ofString t ≠ "__name__") && d.frees.contains (Str.ofString t)))) &&
  ((d.frees.all fun x => He.eqO (PySem.W.nsIn K mainGlobals x) (some none)) &&
  ((["isinstance", "len", "ord", "int", "str", "tuple", "max", "min", "sum", "range", "list", "zip", "iter"].all fun t => d.frees.contains (Str.ofString t)) &&
  ((d.cls.zipIdx).all fun p => d.okC K p.1 p.2))))))))
abbrev Ld.α : Type := Bool × List (Option (List (Option (Str × Int))))
def Ld.obs (d : Ld) (K : PySem.W.Frag) : Ld.α := (d.ok K, d.dcs.map fun p => He.dicW K (He.ga K p.1))
def Ld.val (d : Ld) (w : World) : Ld.α := (true, d.dcs.map fun p => some (He.keysIn w.params p.2.1))
def Ld.obsG (d : Ld) (n : Nat) (g : Addr → Option Obj) : Ld.α := d.obs (He.frG g (He.asD g n))
def Ld.hook (d : Ld) (n : Nat) : PySem.W.Hook where
  α := Ld.α
  obs := fun s => d.obsG n s.heap.get?
  val := fun w => d.val w
  says := fun w h => ∃ K : PySem.W.Frag, K.In h ∧ d.obs K = d.val w
  of := fun _ _ e => ⟨_, He.frG_in, e⟩
  keeps := fun _ _ _ ⟨K, hK, c⟩ k => ⟨K, PySem.W.Frag.In.keeps hK k, c⟩
theorem Ld.obsG_eq {d : Ld} {n : Nat} {g : Addr → Option Obj} {s : Shared} (h : ∀ a, g a = s.heap.get? a) : d.obsG n g = (d.hook n).obs s := by
  have e : g = s.heap.get? := funext h
  rw [e]; rfl
theorem mem_of_lookup' {α : Type} : ∀ {l : List (Str × α)} {x : Str} {v : α}, l.lookup x = some v → (x, v) ∈ l := fun {l x v} h => PySem.mem_of_lookup h
section
variable {d : Ld} {K : PySem.W.Frag} {w : World}
theorem ins_of {C : Addr} (h : insB K C = true) (cl : Cls K C) : InsOk K C := by
  unfold insB at h
  simp only [Bool.and_eq_true, decide_eq_true_eq] at h
  exact ⟨cl, He.eqO_ok h.1, He.eqO_ok h.2.1, h.2.2.1, h.2.2.2⟩
theorem exc_of {C : Addr} (h : excB K C = true) : ExcC K C := by
  unfold excB insB at h
  simp only [Bool.and_eq_true, decide_eq_true_eq] at h
  obtain ⟨h1, h2, h3, h4, h5, h6, h7, h8⟩ := h
  exact ⟨He.eqO_ok h1, He.eqO_ok h2, h3, h4, He.eqO_ok h5, He.eqO_ok h6, h7, h8⟩
theorem ca_of {c : Nat} {k : Cd} (e : d.cls[c]? = some k) : d.caK K c = He.ga K k.name := by unfold Ld.caK; rw [e]
theorem fa_of {f : Nat} {p : Str × Option Str} (e : d.fns[f]? = some p) : d.faK K f = He.fAd K p := by unfold Ld.faK; rw [e]
/-- the facts of a class -/
theorem okC_get (h : ((d.cls.zipIdx).all fun p => d.okC K p.1 p.2) = true) {c : Nat} {k : Cd} (e : d.cls[c]? = some k) : d.okC K k c = true := List.all_eq_true.mp h (k, c) (by rw [List.mem_zipIdx_iff_getElem?]; exact e)
theorem okC_parts {k : Cd} {c : Nat} (h : d.okC K k c = true) : PySem.W.nsIn K mainGlobals k.name = some (some (.ref (He.ga K k.name))) ∧ dbg k.name = true ∧ (∀ n ∈ baseKds, PySem.W.kitOne K (.type n) (.ref (He.ga K k.name)) = some false) := by
  unfold Ld.okC at h
  simp only [Bool.and_eq_true, List.all_eq_true, decide_eq_true_eq] at h
  exact ⟨He.eqO_ok h.1, h.2.1, h.2.2.1⟩
theorem okC_exc {k : Cd} {c₀ : Nat} (h : d.okC K k c₀ = true) (e : k.exc = true) : (He.Fa.exc k.name).ok K = true ∧ ExcC K (He.ga K k.name) ∧ PySem.W.kitOne K (.ref (He.ga K k.name)) (.type "ValueError") = some true ∧
    ∀ c k', d.cls[c]? = some k' → k'.exc = true → PySem.W.kitOne K (.ref (He.ga K k.name)) (.ref (He.ga K k'.name)) = some (k.sup.contains c) ∧ PySem.W.exmOne K (.ref (He.ga K k.name)) (.ref (He.ga K k'.name)) = some (k.sup.contains c) := by
  unfold Ld.okC at h
  rw [e, if_pos rfl] at h
  simp only [Bool.and_eq_true] at h
  obtain ⟨_, _, _, h1, h2, h3, h4⟩ := h
  refine ⟨h1, exc_of h2, of_decide_eq_true h3, fun c k' ec ek => ?_⟩
  have hm : (k', c) ∈ d.cls.zipIdx := by
    rw [List.mem_zipIdx_iff_getElem?]
    exact ec
  have q := List.all_eq_true.mp h4 _ hm
  simp only [ek, Bool.not_true, Bool.false_or, Bool.and_eq_true, decide_eq_true_eq] at q
  exact q
theorem mem_lookup {α β : Type} [BEq α] [LawfulBEq α] : ∀ {l : List (α × β)} {x : α} {v : β}, l.lookup x = some v → (x, v) ∈ l
  | [], _, _, h => by cases h
  | (y, w) :: l, x, v, h => by
    rw [List.lookup_cons] at h
    cases e : x == y with
    | true =>
      rw [e] at h
      cases h
      rw [eq_of_beq e]
      exact List.mem_cons_self
    | false =>
      rw [e] at h
      exact List.mem_cons_of_mem _ (mem_lookup h)
theorem okC_cls {k : Cd} {c₀ : Nat} (h : d.okC K k c₀ = true) (e : k.exc = false) : Cls K (He.ga K k.name) ∧ InsOk K (He.ga K k.name) ∧ (∀ f ∈ k.flds, NoAttr K (He.ga K k.name) (Str.ofString f)) ∧
    (∀ m f, k.meths.lookup m = some f → Meth K (He.ga K k.name) (Str.ofString m) (d.faK K f) ∧ f < d.fis.length) ∧ (∀ f, k.init = some f → Mk K (He.ga K k.name) (d.faK K f) ∧ f < d.fis.length) ∧
    (∀ t ∈ baseTys, PySem.W.kitOne K (.ref (He.ga K k.name)) (.type t) = some false) ∧ (∀ c k', d.cls[c]? = some k' → k'.exc = false → PySem.W.kitOne K (.ref (He.ga K k.name)) (.ref (He.ga K k'.name)) = some (decide (c₀ = c))) ∧
    (∀ F, k.iter = some F → NoAttr K (He.ga K k.name) (Str.ofString F) ∧ ∃ f, Meth K (He.ga K k.name) "__iter__" f ∧ chkIt K f (Str.ofString F) = true) := by
  unfold Ld.okC at h
  rw [e, if_neg Bool.false_ne_true] at h
  simp only [Bool.and_eq_true] at h
  obtain ⟨_, _, _, h1, h2, h3, h4, h5, h6, h7, h8⟩ := h
  have cl := He.cls_ok h1
  refine ⟨cl, ins_of h5 cl, fun f hf => He.noat_ok (List.all_eq_true.mp h2 f hf), fun m f hm => ?_, fun f hf => ?_, fun t ht => of_decide_eq_true (List.all_eq_true.mp h6 t ht), fun c k' hk he => ?_, fun F hF => ?_⟩
  · have q := List.all_eq_true.mp h3 _ (mem_lookup hm)
    simp only [Bool.and_eq_true, decide_eq_true_eq] at q
    rw [fa_of q.2.1]
    exact ⟨He.meth_ok q.1, q.2.2⟩
  · rw [hf] at h4
    simp only [Bool.and_eq_true, decide_eq_true_eq] at h4
    rw [fa_of h4.2.1]
    exact ⟨He.mkr_ok h4.1, h4.2.2⟩
  · have q := List.all_eq_true.mp h7 (k', c) (by rw [List.mem_zipIdx_iff_getElem?]; exact hk)
    simp only [he, Bool.false_or, decide_eq_true_eq] at q
    exact q
  · rw [hF] at h8
    simp only [Bool.and_eq_true] at h8
    exact ⟨He.noat_ok h8.1, _, He.meth_ok h8.2.1, h8.2.2⟩
theorem Ld.tbOk (h : ((d.cls.zipIdx).all fun p => d.okC K p.1 p.2) = true) : TbOk (d.gb K w) d.tb := by
  refine ⟨fun c f hf => ?_, fun c m f hm => ?_, fun c f hi => ?_⟩
  · simp only [Ld.tb] at hf
    cases e : d.cls[c]? with
    | none => rw [e] at hf; cases hf
    | some k =>
      rw [e] at hf
      simp only [Bool.and_eq_true, Bool.not_eq_true'] at hf
      obtain ⟨a, b, c', _⟩ := okC_cls (okC_get h e) hf.1
      show Cls K (d.caK K c) ∧ NoAttr K (d.caK K c) (Str.ofString f)
      rw [ca_of e]
      exact ⟨a, c' f (by simpa using hf.2)⟩
  · simp only [Ld.tb] at hm
    cases e : d.cls[c]? with
    | none => rw [e] at hm; cases hm
    | some k =>
      rw [e, Option.bind_some] at hm
      cases ex : k.exc with
      | true => rw [ex, if_pos rfl] at hm; cases hm
      | false =>
        rw [ex, if_neg Bool.false_ne_true] at hm
        obtain ⟨a, b, c', d', _⟩ := okC_cls (okC_get h e) ex
        show Cls K (d.caK K c) ∧ Meth K (d.caK K c) (Str.ofString m) (d.faK K f)
        rw [ca_of e]
        exact ⟨a, (d' m f hm).1⟩
  · simp only [Ld.tb] at hi
    cases e : d.cls[c]? with
    | none => rw [e] at hi; cases hi
    | some k =>
      rw [e, Option.bind_some] at hi
      cases ex : k.exc with
      | true => rw [ex, if_pos rfl] at hi; cases hi
      | false =>
        rw [ex, if_neg Bool.false_ne_true] at hi
        obtain ⟨a, b, c', d', e', _⟩ := okC_cls (okC_get h e) ex
        show Mk K (d.caK K c) (d.faK K f)
        rw [ca_of e]
        exact (e' f hi).1
theorem Ld.tbIs (h : ((d.cls.zipIdx).all fun p => d.okC K p.1 p.2) = true) : TbIs (d.gb K w) d.tb := by
  refine ⟨fun c e b hs _ => ?_, fun c t b hs => ?_, fun c n ho hn => ?_, fun c e b hs => ?_⟩
  · simp only [Ld.tb] at hs
    cases e1 : d.cls[c]? with
    | none => rw [e1] at hs; cases hs
    | some k =>
      cases e2 : d.cls[e]? with
      | none => rw [e1, e2] at hs; cases hs
      | some k' =>
        rw [e1, e2, Option.bind_some, Option.bind_some] at hs
        by_cases z : (k.exc || k'.exc) = true
        · rw [if_pos z] at hs; cases hs
        · rw [if_neg z] at hs
          cases hs
          simp only [Bool.or_eq_true, not_or, Bool.not_eq_true] at z
          obtain ⟨_, _, _, _, _, _, q, _⟩ := okC_cls (okC_get h e1) z.1
          show PySem.W.kitOne K (.ref (d.caK K c)) (.ref (d.caK K e)) = _
          rw [ca_of e1, ca_of e2, q e k' e2 z.2]
  · simp only [Ld.tb] at hs
    cases e : d.cls[c]? with
    | none => rw [e] at hs; cases hs
    | some k =>
      rw [e, Option.bind_some] at hs
      by_cases z : (k.exc || !baseTys.contains t) = true
      · rw [if_pos z] at hs; cases hs
      · rw [if_neg z] at hs
        cases hs
        simp only [Bool.or_eq_true, not_or, Bool.not_eq_true, Bool.not_eq_false'] at z
        obtain ⟨_, i, _, _, _, q, _⟩ := okC_cls (okC_get h e) z.1
        show InsOk K (d.caK K c) ∧ PySem.W.kitOne K (.ref (d.caK K c)) (.type t) = some false
        rw [ca_of e]
        exact ⟨i, q t (by simpa using z.2)⟩
  · simp only [Ld.tb, decide_eq_true_eq] at ho
    obtain ⟨k, e⟩ : ∃ k, d.cls[c]? = some k := ⟨_, List.getElem?_eq_getElem ho⟩
    obtain ⟨_, _, q⟩ := okC_parts (okC_get h e)
    show PySem.W.kitOne K (.type n) (.ref (d.caK K c)) = some false
    rw [ca_of e]
    refine q n ?_
    obtain ⟨kk, hk⟩ := hn
    cases kk <;> simp [kindTy] at hk <;> subst hk <;> decide
  · simp only [Ld.tb] at hs
    cases e1 : d.cls[c]? with
    | none => rw [e1] at hs; cases hs
    | some k =>
      cases e2 : d.cls[e]? with
      | none => rw [e1, e2] at hs; cases hs
      | some k' =>
        rw [e1, e2, Option.bind_some, Option.bind_some] at hs
        by_cases z : (k.exc || k'.exc) = true
        · rw [if_pos z] at hs; cases hs
        · simp only [Bool.or_eq_true, not_or, Bool.not_eq_true] at z
          refine ⟨"int", false, ?_⟩
          simp only [Ld.tb, e1, Option.bind_some, z.1]
          rfl
theorem Ld.tbIt {mg : Str → Option Value} (mi : mg "iter" = none) (h : ((d.cls.zipIdx).all fun p => d.okC K p.1 p.2) = true) : TbIt (d.gb K w) d.tb mg := by
  refine ⟨fun c F hf => ?_⟩
  simp only [Ld.tb] at hf
  cases e : d.cls[c]? with
  | none => rw [e] at hf; cases hf
  | some k =>
    rw [e, Option.bind_some] at hf
    cases ex : k.exc with
    | true => rw [ex, if_pos rfl] at hf; cases hf
    | false =>
      rw [ex, if_neg Bool.false_ne_true] at hf
      obtain ⟨cl, _, _, _, _, _, _, q⟩ := okC_cls (okC_get h e) ex
      obtain ⟨na, f, me, ck⟩ := q F hf
      show ∃ f, ItFn K mg (d.caK K c) f (Str.ofString F)
      rw [ca_of e]
      exact ⟨f, chkIt_ok ck cl na me mi⟩
theorem Ld.tbEx (h : ((d.cls.zipIdx).all fun p => d.okC K p.1 p.2) = true) : TbEx (d.gb K w) d.tb := by
  refine ⟨fun c e b hs => ?_, fun c t b hs => ?_, fun c hr => ?_⟩
  · simp only [Ld.tb] at hs
    cases e1 : d.cls[c]? with
    | none => rw [e1] at hs; cases hs
    | some k =>
      cases e2 : d.cls[e]? with
      | none => rw [e1, e2] at hs; cases hs
      | some k' =>
        rw [e1, e2, Option.bind_some, Option.bind_some] at hs
        by_cases z : (k.exc && k'.exc) = true
        · rw [if_pos z] at hs
          cases hs
          rw [Bool.and_eq_true] at z
          obtain ⟨_, x, _, q⟩ := okC_exc (okC_get h e1) z.1
          obtain ⟨q1, q2⟩ := q e k' e2 z.2
          refine ⟨rfl, rfl, ?_⟩
          show ExcC K (d.caK K c) ∧ PySem.W.kitOne K (.ref (d.caK K c)) (.ref (d.caK K e)) = _ ∧ PySem.W.exmOne K (.ref (d.caK K c)) (.ref (d.caK K e)) = _
          rw [ca_of e1, ca_of e2]
          exact ⟨x, q1, q2⟩
        · rw [if_neg z] at hs; cases hs
  · simp only [Ld.tb] at hs
    cases e1 : d.cls[c]? with
    | none => rw [e1] at hs; cases hs
    | some k =>
      rw [e1, Option.bind_some] at hs
      by_cases z : (k.exc && t == "ValueError") = true
      · rw [if_pos z] at hs
        cases hs
        rw [Bool.and_eq_true, beq_iff_eq] at z
        obtain ⟨_, x, y, _⟩ := okC_exc (okC_get h e1) z.1
        refine ⟨rfl, ?_⟩
        show ExcC K (d.caK K c) ∧ PySem.W.kitOne K (.ref (d.caK K c)) (.type t) = some true
        rw [ca_of e1, z.2]
        exact ⟨x, y⟩
      · rw [if_neg z] at hs; cases hs
  · simp only [Ld.tb] at hr
    cases e1 : d.cls[c]? with
    | none => rw [e1] at hr; cases hr
    | some k =>
      rw [e1] at hr
      obtain ⟨x, _⟩ := okC_exc (okC_get h e1) hr
      refine ⟨rfl, ?_⟩
      show PySem.W.excIn K (d.caK K c) He.veBase "ValueError.__new__" = true ∧ PySem.W.keepIn K (.ref (d.caK K c)) = true ∧ PySem.W.subIn K (.ref (d.caK K c)) (.type "BaseException") = some true ∧ PySem.W.typeIn K (.ref (d.caK K c)) = some (.type "type")
      rw [ca_of e1]
      exact He.exc_ok x
end
theorem Ld.lw {d : Ld} {P : Program} {w : World} {K : PySem.W.Frag} {h : Heap} {mg : Str → Option Value} (X : K.In h) (N : h.Ns mainGlobals mg) (e : d.obs K = d.val w) : Lw P w mg (d.gb K w) d.tb d.kn d.tab := by
  have e1 : d.ok K = true := congrArg (fun z : Ld.α => z.1) e
  have e2 : (d.dcs.map fun p => He.dicW K (He.ga K p.1)) = d.dcs.map fun p => some (He.keysIn w.params p.2.1) := congrArg (fun z : Ld.α => z.2) e
  unfold Ld.ok at e1
  simp only [Bool.and_eq_true] at e1
  obtain ⟨a1, a2, a3, a4, a5, a6, a7, a8, a9⟩ := e1
  have free : ∀ {x : Str}, d.frees.contains x = true → mg x = none := fun {x} hx => PySem.W.mg_none_of X N (He.eqO_ok (List.all_eq_true.mp a7 x (by simpa using hx)))
  have blt : ∀ t ∈ ["isinstance", "len", "ord", "int", "str", "tuple", "max", "min", "sum", "range", "list", "zip", "iter"], mg (Str.ofString t) = none := fun t ht => free (List.all_eq_true.mp a8 t ht)
  have hcls : ∀ x c, d.cn x = some c → ∃ k, d.cls[c]? = some k ∧ k.name = x := fun x c hc => by
    obtain ⟨hl, hx, _⟩ := List.findIdx?_eq_some_iff_getElem.mp hc
    exact ⟨_, List.getElem?_eq_getElem hl, by simpa using hx⟩
  have hclm : ∀ x c, d.cn x = some c → mg x = some (.ref (d.caK K c)) ∧ dbg x = true := fun x c hc => by
    obtain ⟨k, e1, rfl⟩ := hcls x c hc
    obtain ⟨q1, q2, _⟩ := okC_parts (okC_get a9 e1)
    rw [ca_of e1]
    exact ⟨PySem.W.mg_of X N q1, q2⟩
  refine ⟨fun a ks ys hk => hk, Ld.tbOk a9, Ld.tbIs a9, fun x v hg => ?_, fun x f hf => ?_, fun x c hc => (hclm x c hc).1, fun c hi => ?_, fun b => blt _ (by cases b <;> simp [Bi.name]),
    blt "range" (by simp), blt "list" (by simp), blt "zip" (by simp), fun f hf => ?_, fun c m f hm => ?_, fun c f hi => ?_, Ld.tbEx a9, Ld.tbIt (blt "iter" (by simp)) a9, fun c hr => hr, fun f fi hf => ?_⟩
  · have hg : d.gl x = some v := hg
    unfold Ld.gl at hg
    cases l1 : d.gls.lookup x with
    | some v' =>
      rw [l1] at hg; cases hg
      have q := List.all_eq_true.mp a4 _ (mem_of_lookup' l1)
      simp only [Bool.and_eq_true] at q
      obtain ⟨q1, q2⟩ := q
      cases en : PySem.W.nsIn K mainGlobals x with
      | none => rw [en] at q2; cases q2
      | some o =>
        rw [en] at q2
        cases o with
        | none => cases q2
        | some u =>
          obtain ⟨y, r, k⟩ := gvB_ok (G := d.gb K w) v u q2
          exact ⟨u, y, r, k, (dbg_of q1).1, .inl (PySem.W.mg_of X N en)⟩
    | none =>
      rw [l1] at hg
      dsimp only at hg
      cases l2 : d.dcs.lookup x with
      | some p =>
        obtain ⟨ks, vs⟩ := p
        rw [l2] at hg; cases hg
        have hm := mem_of_lookup' l2
        have q := List.all_eq_true.mp a5 _ hm
        simp only [Bool.and_eq_true] at q
        obtain ⟨q1, q2, q3⟩ := q
        have hd : He.dicW K (He.ga K x) = some (He.keysIn w.params ks) := by
          obtain ⟨i, hi, ei⟩ := List.getElem_of_mem hm
          have z : (d.dcs.map fun p => He.dicW K (He.ga K p.1))[i]? = (d.dcs.map fun p => some (He.keysIn w.params p.2.1))[i]? := by rw [e2]
          rw [List.getElem?_map, List.getElem?_map, List.getElem?_eq_getElem hi, ei] at z
          exact Option.some.inj z
        obtain ⟨ys, k1, k2, k3⟩ := gdB_ok (G := d.gb K w) q3 hd
        exact ⟨.ref (He.ga K x), .ref (He.ga K x), rfl, fun L b => .dct (.inr k1) k2 (k3 L b), (dbg_of q1).1, .inl (PySem.W.mg_of X N (He.eqO_ok q2))⟩
      | none =>
        rw [l2] at hg
        dsimp only at hg
        cases l3 : d.tys.find? (fun t => decide (Str.ofString t = x)) with
        | none =>
          rw [l3] at hg
          dsimp only at hg
          cases l4 : d.cn x with
          | none => rw [l4] at hg; cases hg
          | some c =>
            rw [l4] at hg; cases hg
            obtain ⟨q1, q2⟩ := hclm x c l4
            exact ⟨_, .ref (d.caK K c), rfl, fun _ _ => .cls c, (dbg_of q2).1, .inl q1⟩
        | some t =>
          rw [l3] at hg; cases hg
          have ex : Str.ofString t = x := by simpa using List.find?_some l3
          have q := List.all_eq_true.mp a6 t (List.mem_of_find?_eq_some l3)
          simp only [Bool.and_eq_true, decide_eq_true_eq] at q
          obtain ⟨q1, q2, q3, q4⟩ := q
          rw [ex] at q1 q2 q3 q4
          exact ⟨.type t, .ty t, rfl, fun _ _ => .ty t, (dbg_of q2).1, .inr ⟨free q4, q1, q3⟩⟩
  · have hf : d.fns.findIdx? (fun y => y == (x, none)) = some f := hf
    obtain ⟨hl, hx, _⟩ := List.findIdx?_eq_some_iff_getElem.mp hf
    have ex : d.fns[f] = (x, none) := by simpa using hx
    have eg : d.faK K f = He.ga K x := by
      rw [fa_of (List.getElem?_eq_getElem hl), ex]; rfl
    show mg x = some (.ref (d.faK K f))
    rw [eg]
    have q := List.all_eq_true.mp a3 d.fns[f] (List.getElem_mem hl)
    rw [ex] at q
    exact PySem.W.mg_of X N (He.eqO_ok q)
  · simp only [Ld.kn] at hi
    cases e : d.cls[c]? with
    | none => rw [e] at hi; cases hi
    | some k =>
      rw [e] at hi
      simp only [Bool.and_eq_true, Bool.not_eq_true'] at hi
      obtain ⟨ex, hi⟩ := hi
      cases ei : k.init with
      | none => rw [ei] at hi; cases hi
      | some f =>
        refine ⟨f, ?_⟩
        simp only [Ld.tb, e, Option.bind_some, ei, ex]
        rfl
  · have hf : f < d.fis.length := of_decide_eq_true hf
    exact ⟨d.fis[f], List.getElem?_eq_getElem hf⟩
  · simp only [Ld.tb] at hm
    cases e : d.cls[c]? with
    | none => rw [e] at hm; cases hm
    | some k =>
      rw [e, Option.bind_some] at hm
      cases ex : k.exc with
      | true => rw [ex, if_pos rfl] at hm; cases hm
      | false =>
        rw [ex, if_neg Bool.false_ne_true] at hm
        obtain ⟨_, _, _, q, _⟩ := okC_cls (okC_get a9 e) ex
        exact ⟨d.fis[f]'(q m f hm).2, List.getElem?_eq_getElem (q m f hm).2⟩
  · simp only [Ld.tb] at hi
    cases e : d.cls[c]? with
    | none => rw [e] at hi; cases hi
    | some k =>
      rw [e, Option.bind_some] at hi
      cases ex : k.exc with
      | true => rw [ex, if_pos rfl] at hi; cases hi
      | false =>
        rw [ex, if_neg Bool.false_ne_true] at hi
        obtain ⟨_, _, _, _, q, _⟩ := okC_cls (okC_get a9 e) ex
        exact ⟨d.fis[f]'(q f hi).2, List.getElem?_eq_getElem (q f hi).2⟩
  · have hf : d.fis[f]? = some fi := hf
    obtain ⟨hl, ef⟩ := List.getElem?_eq_some_iff.mp hf
    have a2 : d.fns.length = d.fis.length := of_decide_eq_true a2
    have hl2 : f < d.fns.length := by rw [a2]; exact hl
    have hm : (d.fns[f], fi) ∈ d.fns.zip d.fis := by
      have : (d.fns.zip d.fis)[f]? = some (d.fns[f], fi) := List.getElem?_zip_eq_some.mpr ⟨List.getElem?_eq_getElem hl2, hf⟩
      exact List.mem_of_getElem? this
    have eg : d.faK K f = He.fAd K d.fns[f] := fa_of (List.getElem?_eq_getElem hl2)
    show chkFn K d.kn (d.faK K f) fi = true
    rw [eg]
    exact List.all_eq_true.mp a1 _ hm
end MP
set_option Elab.async false
set_option linter.all false
set_option autoImplicit false
set_option maxRecDepth 100000
set_option maxHeartbeats 0
/-! Law k67, part a: the text in the mini language. -/
namespace K67
open PySem PySem.Spec L2 MP
def k_NUMBER_MOST : MV := (.int 1000000000000000000)
def k_TEXT_MOST : MV := (.int 200)
def k_PERCENT : MV := (.int 37)
def k_KINDS : MV := (.tup [(.str (Str.ofString "journal")), (.str (Str.ofString "manager")), (.str (Str.ofString "client"))])
def kk_FORMS : List String := ["promise", "sync", "edit", "purge", "ping", "promised", "synced", "ponged", "refused", "request", "read", "answer", "value"]
def kv_FORMS : List MV := [(.tup [(.str (Str.ofString "manager")), (.str (Str.ofString "journal")), (.tup [(.str (Str.ofString "number"))])]), (.tup [(.str (Str.ofString "manager")), (.str (Str.ofString "journal")), (.tup [(.str (Str.ofString "number")), (.str (Str.ofString "log"))])]), (.tup [(.str (Str.ofString "manager")), (.str (Str.ofString "journal")), (.tup [(.str (Str.ofString "number")), (.str (Str.ofString "count")), (.str (Str.ofString "records"))])]), (.tup [(.str (Str.ofString "manager")), (.str (Str.ofString "journal")), (.tup [(.str (Str.ofString "number")), (.str (Str.ofString "number")), (.str (Str.ofString "any"))])]), (.tup [(.str (Str.ofString "manager")), (.str (Str.ofString "journal")), (.tup [(.str (Str.ofString "number")), (.str (Str.ofString "number"))])]), (.tup [(.str (Str.ofString "journal")), (.str (Str.ofString "manager")), (.tup [(.str (Str.ofString "number")), (.str (Str.ofString "number")), (.str (Str.ofString "log"))])]), (.tup [(.str (Str.ofString "journal")), (.str (Str.ofString "manager")), (.tup [(.str (Str.ofString "number")), (.str (Str.ofString "number"))])]), (.tup [(.str (Str.ofString "journal")), (.str (Str.ofString "manager")), (.tup [(.str (Str.ofString "number")), (.str (Str.ofString "number"))])]), (.tup [(.str (Str.ofString "journal")), (.str (Str.ofString "manager")), (.tup [(.str (Str.ofString "number")), (.str (Str.ofString "number"))])]), (.tup [(.str (Str.ofString "client")), (.str (Str.ofString "manager")), (.tup [(.str (Str.ofString "count")), (.str (Str.ofString "deed"))])]), (.tup [(.str (Str.ofString "client")), (.str (Str.ofString "manager")), (.tup [(.str (Str.ofString "count")), (.str (Str.ofString "deed"))])]), (.tup [(.str (Str.ofString "manager")), (.str (Str.ofString "client")), (.tup [(.str (Str.ofString "count")), (.str (Str.ofString "any"))])]), (.tup [(.str (Str.ofString "manager")), (.str (Str.ofString "client")), (.tup [(.str (Str.ofString "count")), (.str (Str.ofString "number")), (.str (Str.ofString "any"))])])]
def k_FORMS : MV := .dct (kk_FORMS.map fun x => .inr (Str.ofString x)) kv_FORMS
/-- is_integer -/
def f0 : Fi := ⟨["thing"], ⟨1, 1, (.cons (.ite (.or (.cons (.not (.bi .isinst (.cons (.var 0) (.cons (.gl "int" (.ty "int")) .nil)))) (.cons (.bi .isinst (.cons (.var 0) (.cons (.gl "bool" (.ty "bool")) .nil))) .nil))) (.cons (.ret (.bl false))
      .nil) .nil)
      (.cons (.ret (.chain .le .le (.neg (.gl "NUMBER_MOST" (.int 1000000000000000000))) (.var 0) (.gl "NUMBER_MOST" (.int 1000000000000000000))))
      .nil)), false⟩⟩
/-- is_number -/
def f1 : Fi := ⟨["thing"], ⟨1, 1, (.cons (.ret (.and (.cons (.call 0 (.cons (.var 0) .nil)) (.cons (.op .ge (.var 0) (.int 0)) .nil))))
      .nil), false⟩⟩
/-- is_text -/
def f2 : Fi := ⟨["thing", "char"], ⟨2, 1, (.cons (.ite (.or (.cons (.not (.bi .isinst (.cons (.var 0) (.cons (.gl "str" (.ty "str")) .nil)))) (.cons (.op .gt (.bi .len (.cons (.var 0) .nil)) (.gl "TEXT_MOST" (.int 200))) .nil))) (.cons (.ret (.bl false))
      .nil) .nil)
      (.cons (.for (.var 1) (.text (.var 0)) (.cons (.ite (.or (.cons (.op .lt (.var 1) (.str " ")) (.cons (.op .gt (.var 1) (.str "~")) (.cons (.op .eq (.bi .ord (.cons (.var 1) .nil)) (.gl "PERCENT" (.int 37))) .nil)))) (.cons (.ret (.bl false))
      .nil) .nil)
      .nil))
      (.cons (.ret (.bl true))
      .nil))), false⟩⟩
/-- is_deed -/
def f3 : Fi := ⟨["thing", "item"], ⟨2, 1, (.cons (.ite (.or (.cons (.not (.bi .isinst (.cons (.var 0) (.cons (.gl "tuple" (.ty "tuple")) .nil)))) (.cons (.not (.chain .le .le (.int 1) (.bi .len (.cons (.var 0) .nil)) (.int 4))) .nil))) (.cons (.ret (.bl false))
      .nil) .nil)
      (.cons (.for (.var 1) (.over (.var 0)) (.cons (.ite (.and (.cons (.not (.call 0 (.cons (.var 1) .nil))) (.cons (.not (.call 2 (.cons (.var 1) .nil))) .nil))) (.cons (.ret (.bl false))
      .nil) .nil)
      .nil))
      (.cons (.ret (.and (.cons (.call 2 (.cons (.ix (.var 0) (.int 0)) .nil)) (.cons (.op .ne (.ix (.var 0) (.int 0)) (.str "")) .nil))))
      .nil))), false⟩⟩
/-- is_machine -/
def f4 : Fi := ⟨["thing"], ⟨1, 1, (.cons (.ite (.or (.cons (.not (.bi .isinst (.cons (.var 0) (.cons (.gl "tuple" (.ty "tuple")) .nil)))) (.cons (.op .ne (.bi .len (.cons (.var 0) .nil)) (.int 2)) .nil))) (.cons (.ret (.bl false))
      .nil) .nil)
      (.cons (.ret (.and (.cons (.bi .isinst (.cons (.ix (.var 0) (.int 0)) (.cons (.gl "str" (.ty "str")) .nil))) (.cons (.op .«in» (.ix (.var 0) (.int 0)) (.gl "KINDS" k_KINDS)) (.cons (.call 1 (.cons (.ix (.var 0) (.int 1)) .nil)) .nil)))))
      .nil)), false⟩⟩
/-- is_field -/
def f5 : Fi := ⟨["kind", "thing"], ⟨2, 2, (.cons (.ite (.op .eq (.var 0) (.str "number")) (.cons (.ret (.call 1 (.cons (.var 1) .nil)))
      .nil) .nil)
      (.cons (.ite (.op .eq (.var 0) (.str "count")) (.cons (.ret (.and (.cons (.call 1 (.cons (.var 1) .nil)) (.cons (.op .gt (.var 1) (.int 0)) .nil))))
      .nil) .nil)
      (.cons (.ite (.op .eq (.var 0) (.str "deed")) (.cons (.ret (.call 3 (.cons (.var 1) .nil)))
      .nil) .nil)
      (.cons (.ite (.op .eq (.var 0) (.str "records")) (.cons (.ret (.bi .isinst (.cons (.var 1) (.cons (.gl "tuple" (.ty "tuple")) .nil))))
      .nil) .nil)
      (.cons (.ite (.op .eq (.var 0) (.str "log")) (.cons (.ret (.and (.cons (.bi .isinst (.cons (.var 1) (.cons (.gl "tuple" (.ty "tuple")) .nil))) (.cons (.op .eq (.bi .len (.cons (.var 1) .nil)) (.int 3)) (.cons (.call 1 (.cons (.ix (.var 1) (.int 0)) .nil)) (.cons (.bi .isinst (.cons (.ix (.var 1) (.int 2)) (.cons (.gl "tuple" (.ty "tuple")) .nil))) .nil))))))
      .nil) .nil)
      (.cons (.ret (.bl true))
      .nil)))))), false⟩⟩
/-- is_body -/
def f6 : Fi := ⟨["sender", "receiver", "body", "form", "kind", "thing"], ⟨6, 3, (.cons (.ite (.or (.cons (.not (.bi .isinst (.cons (.var 2) (.cons (.gl "tuple" (.ty "tuple")) .nil)))) (.cons (.op .eq (.bi .len (.cons (.var 2) .nil)) (.int 0)) (.cons (.not (.bi .isinst (.cons (.ix (.var 2) (.int 0)) (.cons (.gl "str" (.ty "str")) .nil)))) (.cons (.op .notin (.ix (.var 2) (.int 0)) (.gl "FORMS" k_FORMS)) .nil))))) (.cons (.ret (.bl false))
      .nil) .nil)
      (.cons (.set 3 (.ix (.gl "FORMS" k_FORMS) (.ix (.var 2) (.int 0))))
      (.cons (.ite (.or (.cons (.op .ne (.ix (.var 3) (.int 0)) (.var 0)) (.cons (.op .ne (.ix (.var 3) (.int 1)) (.var 1)) (.cons (.op .ne (.bi .len (.cons (.ix (.var 3) (.int 2)) .nil)) (.op .sub (.bi .len (.cons (.var 2) .nil)) (.int 1))) .nil)))) (.cons (.ret (.bl false))
      .nil) .nil)
      (.cons (.for (.tup [4, 5]) (.zip (.ix (.var 3) (.int 2)) (.sl (.var 2) (.yes (.int 1)) .no)) (.cons (.ite (.not (.call 5 (.cons (.var 4) (.cons (.var 5) .nil)))) (.cons (.ret (.bl false))
      .nil) .nil)
      .nil))
      (.cons (.ret (.bl true))
      .nil))))), false⟩⟩
/-- is_message -/
def f7 : Fi := ⟨["thing", "sender", "receiver", "body"], ⟨4, 1, (.cons (.ite (.or (.cons (.not (.bi .isinst (.cons (.var 0) (.cons (.gl "tuple" (.ty "tuple")) .nil)))) (.cons (.op .ne (.bi .len (.cons (.var 0) .nil)) (.int 3)) .nil))) (.cons (.ret (.bl false))
      .nil) .nil)
      (.cons (.unp [1, 2, 3] (.var 0))
      (.cons (.ret (.and (.cons (.call 4 (.cons (.var 1) .nil)) (.cons (.call 4 (.cons (.var 2) .nil)) (.cons (.call 6 (.cons (.ix (.var 1) (.int 0)) (.cons (.ix (.var 2) (.int 0)) (.cons (.var 3) .nil)))) .nil)))))
      .nil))), false⟩⟩
/-- _law_stream -/
def f8 : Fi := ⟨["_law_cell", "_law_k", "_law_digits"], ⟨3, 2, (.cons (.set 2 (.int 0))
      (.cons (.ite (.op .ge (.var 0) (.op .pow (.int 10) (.int 18))) (.cons (.set 2 (.var 0))
      .nil) .nil)
      (.cons (.ret (.cl (.lst (.cons (.var 2) (.cons (.op .mod (.bi .int (.cons (.op .add (.op .add (.op .mul (.var 0) (.int 48271)) (.op .mul (.var 1) (.int 69621))) (.int 77)) .nil)) (.int 2147483647)) .nil)))))
      .nil))), false⟩⟩
/-- _law_next -/
def f9 : Fi := ⟨["_law_stream_here", "_law_size", "_law_drawn"], ⟨3, 2, (.cons (.ite (.op .gt (.ix (.var 0) (.int 0)) (.int 0)) (.cons (.set 2 (.op .mod (.bi .int (.cons (.ix (.var 0) (.int 0)) .nil)) (.var 1)))
      (.cons (.setIx (.var 0) (.int 0) (.op .fdiv (.ix (.var 0) (.int 0)) (.var 1)))
      (.cons (.ret (.var 2))
      .nil))) .nil)
      (.cons (.setIx (.var 0) (.int 1) (.op .mod (.bi .int (.cons (.op .add (.op .mul (.ix (.var 0) (.int 1)) (.int 48271)) (.int 12820163)) .nil)) (.int 2147483647)))
      (.cons (.ret (.op .mod (.bi .int (.cons (.op .fdiv (.op .mod (.bi .int (.cons (.op .add (.op .mul (.ix (.var 0) (.int 1)) (.int 16807)) (.int 5)) .nil)) (.int 2147483399)) (.int 3)) .nil)) (.var 1)))
      .nil))), false⟩⟩
/-- _law_machine -/
def f10 : Fi := ⟨["_law_stream_here", "_law_kind", "_law_number_here"], ⟨3, 1, (.cons (.set 1 (.ix (.tup (.cons (.str "journal") (.cons (.str "manager") (.cons (.str "client") .nil)))) (.call 9 (.cons (.var 0) (.cons (.int 3) .nil)))))
      (.cons (.set 2 (.call 9 (.cons (.var 0) (.cons (.int 8) .nil))))
      (.cons (.ite (.op .eq (.call 9 (.cons (.var 0) (.cons (.int 4) .nil))) (.int 0)) (.cons (.set 2 (.op .add (.op .mul (.call 9 (.cons (.var 0) (.cons (.op .pow (.int 10) (.int 9)) .nil))) (.op .pow (.int 10) (.int 9))) (.call 9 (.cons (.var 0) (.cons (.op .pow (.int 10) (.int 9)) .nil)))))
      .nil) .nil)
      (.cons (.ite (.op .eq (.call 9 (.cons (.var 0) (.cons (.int 8) .nil))) (.int 0)) (.cons (.set 2 (.op .pow (.int 10) (.int 18)))
      .nil) .nil)
      (.cons (.ret (.tup (.cons (.var 1) (.cons (.var 2) .nil))))
      .nil))))), false⟩⟩
/-- _law_forms -/
def f11 : Fi := ⟨["_law_rows"], ⟨1, 0, (.cons (.set 0 (.fz (.lst (.cons (.tup (.cons (.str "promise") (.cons (.str "manager") (.cons (.str "journal") (.cons (.str "n") .nil))))) (.cons (.tup (.cons (.str "sync") (.cons (.str "manager") (.cons (.str "journal") (.cons (.str "nl") .nil))))) .nil)))))
      (.cons (.set 0 (.fz (.cat (.var 0) (.fz (.lst (.cons (.tup (.cons (.str "edit") (.cons (.str "manager") (.cons (.str "journal") (.cons (.str "ncr") .nil))))) (.cons (.tup (.cons (.str "purge") (.cons (.str "manager") (.cons (.str "journal") (.cons (.str "nnx") .nil))))) .nil)))))))
      (.cons (.set 0 (.fz (.cat (.var 0) (.fz (.lst (.cons (.tup (.cons (.str "ping") (.cons (.str "manager") (.cons (.str "journal") (.cons (.str "nn") .nil))))) (.cons (.tup (.cons (.str "promised") (.cons (.str "journal") (.cons (.str "manager") (.cons (.str "nnl") .nil))))) .nil)))))))
      (.cons (.set 0 (.fz (.cat (.var 0) (.fz (.lst (.cons (.tup (.cons (.str "synced") (.cons (.str "journal") (.cons (.str "manager") (.cons (.str "nn") .nil))))) (.cons (.tup (.cons (.str "ponged") (.cons (.str "journal") (.cons (.str "manager") (.cons (.str "nn") .nil))))) .nil)))))))
      (.cons (.set 0 (.fz (.cat (.var 0) (.fz (.lst (.cons (.tup (.cons (.str "refused") (.cons (.str "journal") (.cons (.str "manager") (.cons (.str "nn") .nil))))) (.cons (.tup (.cons (.str "request") (.cons (.str "client") (.cons (.str "manager") (.cons (.str "cd") .nil))))) .nil)))))))
      (.cons (.set 0 (.fz (.cat (.var 0) (.fz (.lst (.cons (.tup (.cons (.str "read") (.cons (.str "client") (.cons (.str "manager") (.cons (.str "cd") .nil))))) (.cons (.tup (.cons (.str "answer") (.cons (.str "manager") (.cons (.str "client") (.cons (.str "cx") .nil))))) .nil)))))))
      (.cons (.ret (.fz (.cat (.var 0) (.fz (.lst (.cons (.tup (.cons (.str "value") (.cons (.str "manager") (.cons (.str "client") (.cons (.str "cnx") .nil))))) .nil))))))
      .nil))))))), false⟩⟩
/-- _law_number -/
def f12 : Fi := ⟨["_law_stream_here"], ⟨1, 1, (.cons (.ite (.op .eq (.call 9 (.cons (.var 0) (.cons (.int 3) .nil))) (.int 0)) (.cons (.ret (.op .sub (.op .pow (.int 10) (.int 18)) (.call 9 (.cons (.var 0) (.cons (.int 2) .nil)))))
      .nil) .nil)
      (.cons (.ret (.call 9 (.cons (.var 0) (.cons (.op .pow (.int 10) (.int 6)) .nil))))
      .nil)), false⟩⟩
/-- _law_deed -/
def f13 : Fi := ⟨["_law_stream_here", "_law_items", "_law_k"], ⟨3, 1, (.cons (.setOwn 1 (.lst (.cons (.ix (.tup (.cons (.str "append") (.cons (.str "seal") (.cons (.str "x") (.cons (.str "limit") (.cons (.str "zz") .nil)))))) (.call 9 (.cons (.var 0) (.cons (.int 5) .nil)))) .nil)))
      (.cons (.for (.var 2) (.range1 (.call 9 (.cons (.var 0) (.cons (.int 4) .nil)))) (.cons (.mut .append (.var 1) (.ix (.tup (.cons (.str "/a") (.cons (.int 0) (.cons (.neg (.op .pow (.int 10) (.int 18))) (.cons (.str "") (.cons (.op .pow (.int 10) (.int 18)) (.cons (.str "b c") .nil))))))) (.call 9 (.cons (.var 0) (.cons (.int 6) .nil)))))
      .nil))
      (.cons (.ret (.bi .tuple (.cons (.var 1) .nil)))
      .nil))), false⟩⟩
/-- _law_thing -/
def f14 : Fi := ⟨["_law_stream_here", "_law_deep"], ⟨2, 1, (.cons (.set 1 (.tup (.cons (.int 1) (.cons (.tup (.cons (.str "a") (.cons (.tup .nil) .nil))) (.cons (.neg (.int 5)) .nil)))))
      (.cons (.ret (.ix (.tup (.cons (.int 0) (.cons (.str "") (.cons (.tup .nil) (.cons (.var 1) (.cons (.op .pow (.int 10) (.int 18)) (.cons (.str "seal") (.cons (.neg (.op .pow (.int 10) (.int 18))) (.cons (.tup (.cons (.str "skipped") .nil)) (.cons (.tup (.cons (.str "made") (.cons (.int 3) .nil))) .nil)))))))))) (.call 9 (.cons (.var 0) (.cons (.int 9) .nil)))))
      .nil)), false⟩⟩
/-- _law_field -/
def f15 : Fi := ⟨["_law_stream_here", "_law_mark", "_law_k"], ⟨3, 2, (.cons (.ite (.op .eq (.var 1) (.str "n")) (.cons (.ret (.call 12 (.cons (.var 0) .nil)))
      .nil) .nil)
      (.cons (.ite (.op .eq (.var 1) (.str "c")) (.cons (.ret (.bi .max (.cons (.int 1) (.cons (.call 12 (.cons (.var 0) .nil)) .nil))))
      .nil) .nil)
      (.cons (.ite (.op .eq (.var 1) (.str "d")) (.cons (.ret (.call 13 (.cons (.var 0) .nil)))
      .nil) .nil)
      (.cons (.ite (.op .eq (.var 1) (.str "r")) (.cons (.ret (.bi .tuple (.cons (.fz (.comp (.var 2) (.range1 (.call 9 (.cons (.var 0) (.cons (.int 4) .nil)))) .no (.tup (.cons (.int 0) (.cons (.op .add (.int 1) (.var 2)) (.cons (.call 13 (.cons (.var 0) .nil)) .nil)))))) .nil)))
      .nil) .nil)
      (.cons (.ite (.op .eq (.var 1) (.str "l")) (.cons (.ret (.tup (.cons (.call 12 (.cons (.var 0) .nil)) (.cons (.call 14 (.cons (.var 0) .nil)) (.cons (.call 15 (.cons (.var 0) (.cons (.str "r") .nil))) .nil)))))
      .nil) .nil)
      (.cons (.ret (.call 14 (.cons (.var 0) .nil)))
      .nil)))))), false⟩⟩
/-- _law_body -/
def f16 : Fi := ⟨["_law_stream_here", "_law_row", "_law_mark"], ⟨3, 2, (.cons (.ret (.op .add (.tup (.cons (.ix (.var 1) (.int 0)) .nil)) (.bi .tuple (.cons (.fz (.comp (.var 2) (.text (.ix (.var 1) (.int 3))) .no (.call 15 (.cons (.var 0) (.cons (.var 2) .nil))))) .nil))))
      .nil), false⟩⟩
/-- _law_is -/
def f17 : Fi := ⟨["_law_actual", "_law_due"], ⟨2, 2, (.cons (.ret (.and (.cons (.bi .isinst (.cons (.var 0) (.cons (.gl "int" (.ty "int")) .nil))) (.cons (.not (.bi .isinst (.cons (.var 0) (.cons (.gl "bool" (.ty "bool")) .nil)))) (.cons (.op .eq (.var 0) (.var 1)) .nil)))))
      .nil), false⟩⟩
/-- _law_equal -/
def f18 : Fi := ⟨["_law_actual", "_law_due", "_law_k"], ⟨3, 2, (.cons (.ite (.bi .isinst (.cons (.var 1) (.cons (.gl "str" (.ty "str")) .nil))) (.cons (.ret (.and (.cons (.bi .isinst (.cons (.var 0) (.cons (.gl "str" (.ty "str")) .nil))) (.cons (.op .eq (.var 0) (.var 1)) .nil))))
      .nil) .nil)
      (.cons (.ite (.not (.bi .isinst (.cons (.var 1) (.cons (.gl "tuple" (.ty "tuple")) .nil)))) (.cons (.ret (.and (.cons (.bi .isinst (.cons (.var 0) (.cons (.gl "int" (.ty "int")) .nil))) (.cons (.not (.bi .isinst (.cons (.var 0) (.cons (.gl "bool" (.ty "bool")) .nil)))) (.cons (.op .eq (.var 0) (.var 1)) .nil)))))
      .nil) .nil)
      (.cons (.ite (.or (.cons (.not (.bi .isinst (.cons (.var 0) (.cons (.gl "tuple" (.ty "tuple")) .nil)))) (.cons (.op .ne (.bi .len (.cons (.var 0) .nil)) (.bi .len (.cons (.var 1) .nil))) .nil))) (.cons (.ret (.bl false))
      .nil) .nil)
      (.cons (.for (.var 2) (.range1 (.bi .len (.cons (.var 1) .nil))) (.cons (.ite (.not (.call 18 (.cons (.ix (.var 0) (.var 2)) (.cons (.ix (.var 1) (.var 2)) .nil)))) (.cons (.ret (.bl false))
      .nil) .nil)
      .nil))
      (.cons (.ret (.bl true))
      .nil))))), false⟩⟩
/-- _law_message -/
def f19 : Fi := ⟨["_law_stream_here", "_law_row"], ⟨2, 1, (.cons (.set 1 (.ix (.call 11 .nil) (.call 9 (.cons (.var 0) (.cons (.int 13) .nil)))))
      (.cons (.ret (.tup (.cons (.tup (.cons (.ix (.var 1) (.int 1)) (.cons (.ix (.call 10 (.cons (.var 0) .nil)) (.int 1)) .nil))) (.cons (.tup (.cons (.ix (.var 1) (.int 2)) (.cons (.ix (.call 10 (.cons (.var 0) .nil)) (.int 1)) .nil))) (.cons (.call 16 (.cons (.var 0) (.cons (.var 1) .nil))) .nil)))))
      .nil)), false⟩⟩
/-- _law_dropped -/
def f20 : Fi := ⟨["_law_network", "_law_number_here"], ⟨2, 2, (.cons (.try (.cons (.ite (.op .isnot (.meth (.var 0) "drop" (.cons (.var 1) .nil)) .non) (.cons (.ret (.str "wrong"))
      .nil) .nil)
      .nil) (.cons 2 none (.cons (.ret (.str "unknown"))
      .nil) .nil))
      (.cons (.ret (.str "dropped"))
      .nil)), false⟩⟩
/-- _law_asked -/
def f21 : Fi := ⟨["_law_network", "_law_number_here"], ⟨2, 2, (.cons (.try (.cons (.ret (.meth (.var 0) "message" (.cons (.var 1) .nil)))
      .nil) (.cons 2 none (.cons (.ret .non)
      .nil) .nil))
      .nil), false⟩⟩
/-- _law_refused -/
def f22 : Fi := ⟨["_law_network"], ⟨1, 1, (.cons (.try (.cons (.exp (.meth (.var 0) "send" (.cons (.tup (.cons (.str "client") (.cons (.int 0) .nil))) .nil)))
      .nil) (.cons 1 none (.cons (.ret (.bl true))
      .nil) .nil))
      (.cons (.ret (.bl false))
      .nil)), false⟩⟩
/-- _law_holds -/
def f23 : Fi := ⟨["_law_network", "_law_messages", "_law_there", "_law_number_here", "_law_due"], ⟨5, 2, (.cons (.setOwn 2 (.comp (.var 3) (.range2 (.int 1) (.op .add (.bi .len (.cons (.var 1) .nil)) (.int 1))) (.yes (.op .isnot (.ix (.var 1) (.op .sub (.var 3) (.int 1))) .non)) (.var 3)))
      (.cons (.freeze 2)
      (.cons (.ite (.or (.cons (.not (.call 17 (.cons (.fld (.var 0) "sent") (.cons (.bi .len (.cons (.var 1) .nil)) .nil)))) (.cons (.op .ne (.lenO (.var 0)) (.bi .len (.cons (.var 2) .nil))) .nil))) (.cons (.ret (.bl false))
      .nil) .nil)
      (.cons (.ite (.or (.cons (.not (.call 18 (.cons (.bi .tuple (.cons (.meth (.var 0) "numbers" .nil) .nil)) (.cons (.bi .tuple (.cons (.var 2) .nil)) .nil)))) (.cons (.not (.bi .isinst (.cons (.meth (.var 0) "numbers" .nil) (.cons (.gl "list" (.ty "list")) .nil)))) .nil))) (.cons (.ret (.bl false))
      .nil) .nil)
      (.cons (.ite (.not (.call 18 (.cons (.bi .tuple (.cons (.fz (.compK (.var 3) (.own (.var 0)) .no (.var 3))) .nil)) (.cons (.bi .tuple (.cons (.var 2) .nil)) .nil)))) (.cons (.ret (.bl false))
      .nil) .nil)
      (.cons (.for (.var 3) (.range1 (.op .add (.bi .len (.cons (.var 1) .nil)) (.int 2))) (.cons (.set 4 .non)
      (.cons (.ite (.chain .le .le (.int 1) (.var 3) (.bi .len (.cons (.var 1) .nil))) (.cons (.set 4 (.ix (.var 1) (.op .sub (.var 3) (.int 1))))
      .nil) .nil)
      (.cons (.ite (.op .ne (.call 21 (.cons (.var 0) (.cons (.var 3) .nil))) (.var 4)) (.cons (.ret (.bl false))
      .nil) .nil)
      .nil))))
      (.cons (.ret (.bl true))
      .nil))))))), false⟩⟩
/-- _law_step -/
def f24 : Fi := ⟨["_law_network", "_law_messages", "_law_stream_here", "_law_deed_here", "_law_message_here", "_law_there", "_law_number_here", "_law_due", "_law_old"], ⟨9, 3, (.cons (.set 3 (.call 9 (.cons (.var 2) (.cons (.int 6) .nil))))
      (.cons (.ite (.op .eq (.var 3) (.int 0)) (.cons (.ret (.call 22 (.cons (.var 0) .nil)))
      .nil) .nil)
      (.cons (.ite (.op .le (.var 3) (.int 2)) (.cons (.set 6 (.op .add (.int 1) (.call 9 (.cons (.var 2) (.cons (.op .add (.bi .len (.cons (.var 1) .nil)) (.int 1)) .nil)))))
      (.cons (.ite (.and (.cons (.op .eq (.var 3) (.int 1)) (.cons (.op .eq (.call 9 (.cons (.var 2) (.cons (.int 8) .nil))) (.int 0)) .nil))) (.cons (.set 6 (.ix (.tup (.cons (.int 0) (.cons (.neg (.int 5)) (.cons (.op .pow (.int 10) (.int 18)) .nil)))) (.call 9 (.cons (.var 2) (.cons (.int 3) .nil)))))
      .nil) .nil)
      (.cons (.set 7 (.str "unknown"))
      (.cons (.ite (.and (.cons (.chain .le .le (.int 1) (.var 6) (.bi .len (.cons (.var 1) .nil))) (.cons (.op .isnot (.ix (.var 1) (.op .sub (.var 6) (.int 1))) .non) .nil))) (.cons (.set 7 (.str "dropped"))
      (.cons (.setIx (.var 1) (.op .sub (.var 6) (.int 1)) .non)
      .nil)) .nil)
      (.cons (.ret (.op .eq (.call 20 (.cons (.var 0) (.cons (.var 6) .nil))) (.var 7)))
      .nil))))) .nil)
      (.cons (.set 4 (.call 19 (.cons (.var 2) .nil)))
      (.cons (.setOwn 5 (.comp (.var 8) (.over (.var 1)) (.yes (.op .isnot (.var 8) .non)) (.var 8)))
      (.cons (.freeze 5)
      (.cons (.ite (.and (.cons (.op .eq (.var 3) (.int 3)) (.cons (.var 5) .nil))) (.cons (.set 4 (.ix (.var 5) (.call 9 (.cons (.var 2) (.cons (.bi .len (.cons (.var 5) .nil)) .nil)))))
      .nil) .nil)
      (.cons (.mut .append (.var 1) (.var 4))
      (.cons (.ret (.call 17 (.cons (.meth (.var 0) "send" (.cons (.var 4) .nil)) (.cons (.bi .len (.cons (.var 1) .nil)) .nil))))
      .nil))))))))), false⟩⟩
/-- law -/
def f25 : Fi := ⟨["_law_script", "_law_networks", "_law_sent", "_law_k", "_law_stream_here", "_law_which"], ⟨6, 1, (.cons (.set 1 (.fz (.lst (.cons (.make 3 .nil) (.cons (.make 3 .nil) .nil)))))
      (.cons (.set 2 (.fz (.lst (.cons (.cl (.lst .nil)) (.cons (.cl (.lst .nil)) .nil)))))
      (.cons (.for (.var 3) (.range1 (.bi .min (.cons (.bi .len (.cons (.var 0) .nil)) (.cons (.int 63) .nil)))) (.cons (.set 4 (.call 8 (.cons (.ix (.var 0) (.var 3)) (.cons (.var 3) .nil))))
      (.cons (.set 5 (.call 9 (.cons (.var 4) (.cons (.int 2) .nil))))
      (.cons (.ite (.not (.call 24 (.cons (.ix (.var 1) (.var 5)) (.cons (.ix (.var 2) (.var 5)) (.cons (.var 4) .nil))))) (.cons (.ret (.bl false))
      .nil) .nil)
      (.cons (.ite (.or (.cons (.not (.call 23 (.cons (.ix (.var 1) (.int 0)) (.cons (.ix (.var 2) (.int 0)) .nil)))) (.cons (.not (.call 23 (.cons (.ix (.var 1) (.int 1)) (.cons (.ix (.var 2) (.int 1)) .nil)))) .nil))) (.cons (.ret (.bl false))
      .nil) .nil)
      .nil)))))
      (.cons (.ret (.and (.cons (.call 23 (.cons (.ix (.var 1) (.int 0)) (.cons (.ix (.var 2) (.int 0)) .nil))) (.cons (.call 23 (.cons (.ix (.var 1) (.int 1)) (.cons (.ix (.var 2) (.int 1)) .nil))) .nil))))
      .nil)))), false⟩⟩
/-- Network.__init__ -/
def f26 : Fi := ⟨["self"], ⟨1, 1, (.cons (.setFld (.var 0) "sent" (.int 0))
      (.cons (.setFld (.var 0) "_messages" (.cl .dnew))
      .nil)), false⟩⟩
/-- Network.send -/
def f27 : Fi := ⟨["self", "message"], ⟨2, 2, (.cons (.ite (.not (.call 7 (.cons (.var 1) .nil))) (.cons (.raise 1)
      .nil) .nil)
      (.cons (.augFld (.var 0) "sent" .add (.int 1))
      (.cons (.setIx (.fld (.var 0) "_messages") (.fld (.var 0) "sent") (.var 1))
      (.cons (.ret (.fld (.var 0) "sent"))
      .nil)))), false⟩⟩
/-- Network.message -/
def f28 : Fi := ⟨["self", "number"], ⟨2, 2, (.cons (.ite (.op .notin (.var 1) (.fld (.var 0) "_messages")) (.cons (.raise 2)
      .nil) .nil)
      (.cons (.ret (.ix (.fld (.var 0) "_messages") (.var 1)))
      .nil)), false⟩⟩
/-- Network.drop -/
def f29 : Fi := ⟨["self", "number"], ⟨2, 2, (.cons (.ite (.op .notin (.var 1) (.fld (.var 0) "_messages")) (.cons (.raise 2)
      .nil) .nil)
      (.cons (.delIx (.fld (.var 0) "_messages") (.var 1))
      .nil)), false⟩⟩
/-- Network.numbers -/
def f30 : Fi := ⟨["self"], ⟨1, 1, (.cons (.ret (.cl (.listD (.fld (.var 0) "_messages"))))
      .nil), false⟩⟩
/-- Network.__len__ -/
def f31 : Fi := ⟨["self"], ⟨1, 1, (.cons (.ret (.bi .len (.cons (.fld (.var 0) "_messages") .nil)))
      .nil), false⟩⟩
/-- Network.__iter__ -/
def f32 : Fi := ⟨["self"], ⟨1, 1, (.cons .never .nil), false⟩⟩
def fnL : List (Str × Option Str) := ([("is_integer", none), ("is_number", none), ("is_text", none), ("is_deed", none), ("is_machine", none), ("is_field", none), ("is_body", none), ("is_message", none), ("_law_stream", none), ("_law_next", none), ("_law_machine", none), ("_law_forms", none), ("_law_number", none), ("_law_deed", none), ("_law_thing", none), ("_law_field", none), ("_law_body", none), ("_law_is", none), ("_law_equal", none), ("_law_message", none), ("_law_dropped", none), ("_law_asked", none), ("_law_refused", none), ("_law_holds", none), ("_law_step", none), ("law", none), ("Network", some (Str.ofString "__init__")), ("Network", some (Str.ofString "send")), ("Network", some (Str.ofString "message")), ("Network", some (Str.ofString "drop"))] : List (Str × Option Str)) ++ ([("Network", some (Str.ofString "numbers")), ("Network", some (Str.ofString "__len__")), ("Network", some (Str.ofString "__iter__"))] : List (Str × Option Str))
def tabL : List Fi := ([f0, f1, f2, f3, f4, f5, f6, f7, f8, f9, f10, f11, f12, f13, f14, f15, f16, f17, f18, f19, f20, f21, f22, f23, f24, f25, f26, f27, f28, f29] : List Fi) ++ ([f30, f31, f32] : List Fi)
def clsL : List Cd := [{ name := "HallError", exc := true, sup := [0] },
  { name := "BadValue", exc := true, sup := [1, 0] },
  { name := "Unknown", exc := true, sup := [2, 0] },
  { name := "Network", init := some 26, meths := [("send", 27), ("message", 28), ("drop", 29), ("numbers", 30), ("__len__", 31), ("__iter__", 32)], flds := ["_messages", "sent"], iter := some "_messages" }]
def ld : Ld := { fns := fnL, fis := tabL, cls := clsL, gls := [("NUMBER_MOST", k_NUMBER_MOST), ("TEXT_MOST", k_TEXT_MOST), ("PERCENT", k_PERCENT), ("KINDS", k_KINDS)], dcs := [("FORMS", kk_FORMS.map Str.ofString, kv_FORMS)], tys := ["bool", "int", "list", "str", "tuple"], frees := ["isinstance", "len", "ord", "int", "str", "tuple", "max", "min", "sum", "range", "list", "zip", "iter", "bool"] }
def tab : Nat → Option Fi := fun f => tabL[f]?
def fns : Nat → Option Df := fnsOf tab
def T : Tb := ld.tb
end K67
set_option Elab.async false
set_option linter.all false
set_option autoImplicit false
set_option maxRecDepth 100000
set_option maxHeartbeats 0
/-! Law k67, part b: the head. -/
namespace K67
open PySem PySem.Spec L2 MP
abbrev R : PySem.W.OpenRow := PySem.W.OpenLaw.row PySem.Challenge.rw_appendhall_k67_whole_network_runs
abbrev hk : PySem.W.Hook := ld.hook 5
def ob (s : PySem.W.SharedT) : Ld.α := ld.obsG 5 (HandSHeadRun.getT s)
theorem ob_eq (s : PySem.W.SharedT) : ob s = hk.obs s.abs := Ld.obsG_eq (HandSHeadRun.getT_eq s)
def loose : List PySem.Str := (["HallError", "BadValue", "Unknown", "NUMBER_MOST", "TEXT_MOST", "PERCENT", "is_integer", "is_number", "is_text", "is_deed", "KINDS", "FORMS", "is_machine", "is_field", "is_body", "is_message", "Network", "_law_stream", "_law_next", "_law_machine", "_law_forms", "_law_number", "_law_deed", "_law_thing", "_law_field", "_law_body", "_law_is", "_law_equal", "_law_message", "_law_dropped"] : List PySem.Str) ++ (["_law_asked", "_law_refused", "_law_holds", "_law_step"] : List PySem.Str)
theorem run (w : World) : HandSHeadRun.RunEq R (PySem.W.view R.prog [40]) hk ob 6000 loose w := by
  refine PySem.W.byRow2 "special-get-raises" (P := fun w => HandSHeadRun.RunEq R (PySem.W.view R.prog [40]) hk ob 6000 loose w) ?_ ?_ w
  all_goals
    intro w os
    kernel_rfl
end K67
set_option Elab.async false
set_option linter.all false
set_option autoImplicit false
set_option maxRecDepth 100000
set_option maxHeartbeats 2000000
/-! MR, part a: rules for the meaning, one for each form; the wished-for end in front. -/
namespace MP
open PySem PySem.Spec L2

theorem post_bind {α β : Type} (r : Res α) (f : α → MH → Res β) (Q : β → MH → Prop) (E : Nat → MH → Prop) : (r.bind f).Post Q E = r.Post (fun a h => (f a h).Post Q E) E := by cases r <;> rfl
theorem post_ok {α : Type} (a : α) (h : MH) (Q : α → MH → Prop) (E : Nat → MH → Prop) : (Res.ok a h).Post Q E = Q a h := rfl
/-- a value -/
def asV (e : EV) (Q : MV → Prop) : Prop := match e with
  | .v x => Q x
  | _ => False
theorem post_vb {β : Type} (r : Res EV) (f : MV → MH → Res β) (Q : β → MH → Prop) (E : Nat → MH → Prop) : (r.vb f).Post Q E = r.Post (fun e h => asV e fun x => (f x h).Post Q E) E := by
  unfold Res.vb
  rw [post_bind]
  congr
  funext e h
  cases e <;> rfl
theorem post_vl (r : Res EV) (Q : MV → MH → Prop) (E : Nat → MH → Prop) : r.vl.Post Q E = r.Post (fun e h => asV e fun x => Q x h) E := by
  unfold Res.vl
  rw [post_vb]
  rfl
/-- a truth value -/
def isB (e : EV) (h : MH) (Q : Bool → Prop) : Prop := ∃ b, truth e h = some b ∧ Q b
theorem post_bool (r : Res EV) (Q : Bool → MH → Prop) (E : Nat → MH → Prop) : r.bool.Post Q E = r.Post (fun e h => isB e h fun x => Q x h) E := by
  unfold Res.bool
  rw [post_bind]
  congr
  funext e h
  unfold isB
  cases ht : truth e h <;> simp [Res.Post]
theorem asV_v {x : MV} {Q : MV → Prop} (q : Q x) : asV (.v x) Q := q
theorem isB_of {e : EV} {h : MH} {b : Bool} {Q : Bool → Prop} (t : truth e h = some b) (q : Q b) : isB e h Q := ⟨b, t, q⟩
theorem isB_bl {h : MH} {b : Bool} {Q : Bool → Prop} (q : Q b) : isB (.v (.bl b)) h Q := ⟨b, rfl, q⟩
/-- an item of a thing, if there is one -/
def isO {α : Type} (o : Option α) (Q : α → Prop) : Prop := ∃ v, o = some v ∧ Q v
theorem isO_of {α : Type} {o : Option α} {v : α} {Q : α → Prop} (e : o = some v) (q : Q v) : isO o Q := ⟨v, e, q⟩

/-- both ways of a test -/
def bth (A B : Prop) : Prop := A ∧ B
theorem bth_of {A B : Prop} (a : A) (b : B) : bth A B := ⟨a, b⟩
/-- what must hold on the way -/
def cnd (A B : Prop) : Prop := A ∧ B
theorem cnd_of {A B : Prop} (a : A) (b : B) : cnd A B := ⟨a, b⟩
/-- a place is set -/
def setTo (σ : ML) (i : Nat) (v : LV) (P : ML → Prop) : Prop := i < σ.length ∧ P (σ.set i v)
theorem setTo_of {σ : ML} {i : Nat} {v : LV} {P : ML → Prop} (l : i < σ.length) (p : P (σ.set i v)) : setTo σ i v P := ⟨l, p⟩
theorem setTo_0 {a : LV} {σ : ML} {v : LV} {P : ML → Prop} (p : P (v :: σ)) : setTo (a :: σ) 0 v P := ⟨by simp, p⟩
theorem setTo_s {a : LV} {σ : ML} {i : Nat} {v : LV} {P : ML → Prop} (p : setTo σ i v fun s => P (a :: s)) : setTo (a :: σ) (i + 1) v P := ⟨by simpa using p.1, by simpa using p.2⟩
def setsTo (σ : ML) : List Nat → List MV → (ML → Prop) → Prop
  | [], [], P => P σ
  | i :: is, v :: vs, P => setTo σ i (.val v) fun s => setsTo s is vs P
  | _, _, _ => False
theorem setsTo_0 {σ : ML} {P : ML → Prop} (p : P σ) : setsTo σ [] [] P := by unfold setsTo; exact p
theorem setsTo_s {σ : ML} {i : Nat} {is : List Nat} {v : MV} {vs : List MV} {P : ML → Prop} (p : setTo σ i (.val v) fun s => setsTo s is vs P) : setsTo σ (i :: is) (v :: vs) P := by unfold setsTo; exact p
theorem setsTo_ok : ∀ {is : List Nat} {vs : List MV} {σ : ML} {P : ML → Prop}, setsTo σ is vs P → isO (setAll σ is vs) P
  | [], [], σ, P, p => ⟨σ, by unfold setAll; rfl, by unfold setsTo at p; exact p⟩
  | i :: is, v :: vs, σ, P, p => by
    unfold setsTo at p
    obtain ⟨σ1, e, q⟩ := setsTo_ok p.2
    exact ⟨σ1, by unfold setAll; exact e, q⟩
  | [], _ :: _, _, _, p => by unfold setsTo at p; exact p.elim
  | _ :: _, [], _, _, p => by unfold setsTo at p; exact p.elim
theorem asg_var {i : Nat} {v : MV} {σ : ML} {P : ML → Prop} (p : setTo σ i (.val v) P) : isO (asg (.var i) v σ) P := ⟨_, rfl, p.2⟩
theorem setTo_w1 {i : Nat} {v : LV} {σ : ML} {P : ML → Prop} (p : setTo σ i v P) : setTo (wipeM σ (Tg.own (.var i))) i v P := by
  have e : wipeM σ (Tg.own (.var i)) = σ.set i .un := rfl
  rw [e]
  exact ⟨by rw [List.length_set]; exact p.1, by rw [List.set_set]; exact p.2⟩
theorem p_vl {r : Res EV} {Q : MV → MH → Prop} {E : Nat → MH → Prop} (q : r.Post (fun e h => asV e fun x => Q x h) E) : r.vl.Post Q E := by rw [post_vl]; exact q
theorem asg_tup {is : List Nat} {vs : List MV} {σ : ML} {P : ML → Prop} (p : setsTo σ is vs P) : isO (asg (.tup is) (.tup vs) σ) P := setsTo_ok p
theorem ex_tup {is : List Nat} {vs : List MV} {σ : ML} {P : ML → Prop} (p : setsTo σ is vs P) : ∃ ws, (EV.v (.tup vs)) = .v (.tup ws) ∧ isO (setAll σ is ws) P := ⟨vs, rfl, setsTo_ok p⟩
section
variable {T : Tb} {call : Nat → List MV → MH → Res MV} {W : Nat} {σ : ML} {h : MH} {E : Nat → MH → Prop}
/-! ### expressions -/
theorem p_var {i : Nat} {x : MV} {Q : EV → MH → Prop} (e : σ[i]? = some (.val x)) (q : Q (.v x) h) : (den T call (.var i) σ h).Post Q E := by unfold den; simp only [e]; exact q
theorem p_varO {i : Nat} {c : Ct} {Q : EV → MH → Prop} (e : σ[i]? = some (.own c)) (q : Q (.w c (.loc i)) h) : (den T call (.var i) σ h).Post Q E := by unfold den; simp only [e]; exact q
theorem p_varX {i : Nat} {c : Nat} {Q : EV → MH → Prop} (e : σ[i]? = some (.exc c)) (q : Q (.x c) h) : (den T call (.var i) σ h).Post Q E := by unfold den; simp only [e]; exact q
theorem p_non {Q : EV → MH → Prop} (q : Q (.v .non) h) : (den T call .non σ h).Post Q E := by unfold den; exact q
theorem p_bl {k : Bool} {Q : EV → MH → Prop} (q : Q (.v (.bl k)) h) : (den T call (.bl k) σ h).Post Q E := by unfold den; exact q
theorem p_int {k : Int} {Q : EV → MH → Prop} (q : Q (.v (.int k)) h) : (den T call (.int k) σ h).Post Q E := by unfold den; exact q
theorem p_str {k : String} {Q : EV → MH → Prop} (q : Q (.v (.str k)) h) : (den T call (.str k) σ h).Post Q E := by unfold den; exact q
theorem p_gl {x : String} {v : MV} {Q : EV → MH → Prop} (q : Q (.v v) h) : (den T call (.gl x v) σ h).Post Q E := by unfold den; exact q
theorem p_op {o : B2} {a b : Ex} {Q : EV → MH → Prop} (q : (den T call a σ h).Post (fun x h1 => (den T call b σ h1).Post (fun y h2 => (ev2 o x y h2).Post (fun z h3 => Q (.v z) h3) E) E) E) : (den T call (.op o a b) σ h).Post Q E := by
  unfold den; simp only [post_bind, post_ok]; exact q
theorem p_neg {a : Ex} {Q : EV → MH → Prop} (q : (den T call a σ h).Post (fun x h1 => ∃ i, x = .v (.int i) ∧ Q (.v (.int (-i))) h1) E) : (den T call (.neg a) σ h).Post Q E := by
  unfold den; rw [post_vb]
  refine Post.imp q (fun e h1 z => ?_) fun _ _ z => z
  obtain ⟨i, rfl, z⟩ := z
  exact z
theorem ex_int {i : Int} {Q : Int → Prop} (q : Q i) : ∃ j, (EV.v (.int i)) = .v (.int j) ∧ Q j := ⟨i, rfl, q⟩
theorem p_not {a : Ex} {Q : EV → MH → Prop} (q : (den T call a σ h).Post (fun x h1 => isB x h1 fun k => Q (.v (.bl !k)) h1) E) : (den T call (.not a) σ h).Post Q E := by
  unfold den; simp only [post_bind, post_bool, post_ok]; exact q
theorem p_chain {o o' : B2} {a b c : Ex} {Q : EV → MH → Prop} (q : (den T call a σ h).Post (fun x h1 => (den T call b σ h1).Post (fun y h2 => (ev2 o x y h2).Post (fun z h3 => ∃ k, z = .bl k ∧ (k = true → (den T call c σ h3).Post (fun u h4 => (ev2 o' y u h4).Post (fun z h5 => Q (.v z) h5) E) E) ∧ (k = false → Q (.v (.bl false)) h3)) E) E) E) :
    (den T call (.chain o o' a b c) σ h).Post Q E := by
  unfold den; simp only [post_bind, post_ok]
  refine Post.imp q (fun x h1 z => Post.imp z (fun y h2 z => Post.imp z (fun k h3 z => ?_) fun _ _ z => z) fun _ _ z => z) fun _ _ z => z
  obtain ⟨k, rfl, z1, z2⟩ := z
  cases k with
  | true =>
    have := z1 rfl
    simp only [post_bind, post_ok]
    exact this
  | false => exact z2 rfl
theorem p_ife {c a b : Ex} {Q : EV → MH → Prop} (q : (den T call c σ h).Post (fun x h1 => isB x h1 fun k => bth (k = true → (den T call a σ h1).Post Q E) (k = false → (den T call b σ h1).Post Q E)) E) : (den T call (.ife c a b) σ h).Post Q E := by
  unfold den; simp only [post_bind, post_bool]
  refine Post.imp q (fun x h1 z => ?_) fun _ _ z => z
  obtain ⟨k, e, z1, z2⟩ := z
  refine ⟨k, e, ?_⟩
  cases k with
  | true => exact z1 rfl
  | false => exact z2 rfl
theorem p_and {es : Exs} {Q : EV → MH → Prop} (q : (denAnd T call es σ h).Post Q E) : (den T call (.and es) σ h).Post Q E := by unfold den; exact q
theorem p_or {es : Exs} {Q : EV → MH → Prop} (q : (denOr T call es σ h).Post Q E) : (den T call (.or es) σ h).Post Q E := by unfold den; exact q
theorem p_and1 {e : Ex} {Q : EV → MH → Prop} (q : (den T call e σ h).Post Q E) : (denAnd T call (.cons e .nil) σ h).Post Q E := by unfold denAnd; exact q
theorem p_and2 {e e' : Ex} {es : Exs} {Q : EV → MH → Prop} (q : (den T call e σ h).Post (fun x h1 => ∃ k, x = .v (.bl k) ∧ (k = true → (denAnd T call (.cons e' es) σ h1).Post Q E) ∧ (k = false → Q (.v (.bl false)) h1)) E) : (denAnd T call (.cons e (.cons e' es)) σ h).Post Q E := by
  unfold denAnd; rw [post_vb]
  refine Post.imp q (fun x h1 z => ?_) fun _ _ z => z
  obtain ⟨k, rfl, z1, z2⟩ := z
  cases k with
  | true => exact z1 rfl
  | false => exact z2 rfl
theorem p_or1 {e : Ex} {Q : EV → MH → Prop} (q : (den T call e σ h).Post Q E) : (denOr T call (.cons e .nil) σ h).Post Q E := by unfold denOr; exact q
theorem p_or2 {e e' : Ex} {es : Exs} {Q : EV → MH → Prop} (q : (den T call e σ h).Post (fun x h1 => ∃ k, x = .v (.bl k) ∧ (k = true → Q (.v (.bl true)) h1) ∧ (k = false → (denOr T call (.cons e' es) σ h1).Post Q E)) E) : (denOr T call (.cons e (.cons e' es)) σ h).Post Q E := by
  unfold denOr; rw [post_vb]
  refine Post.imp q (fun x h1 z => ?_) fun _ _ z => z
  obtain ⟨k, rfl, z1, z2⟩ := z
  cases k with
  | true => exact z1 rfl
  | false => exact z2 rfl
theorem ex_bl {b : Bool} {P Q : Bool → Prop} (p : P b) (q : Q b) : ∃ k, (EV.v (.bl b)) = .v (.bl k) ∧ P k ∧ Q k := ⟨b, rfl, p, q⟩
theorem ex_bl' {b : Bool} {P Q : Bool → Prop} (p : P b) (q : Q b) : ∃ k, (MV.bl b) = .bl k ∧ P k ∧ Q k := ⟨b, rfl, p, q⟩
theorem p_tup {es : Exs} {Q : EV → MH → Prop} (q : (dens T call es σ h).Post (fun xs h1 => cnd (xs.length ≤ sizeLine) (Q (.v (.tup xs)) h1)) E) : (den T call (.tup es) σ h).Post Q E := by
  unfold den; rw [post_bind]
  refine Post.imp q (fun x h1 z => ?_) fun _ _ z => z
  rw [if_pos z.1]; exact z.2
theorem p_fzL {c : Fx} {Q : EV → MH → Prop} (q : (denF T call c σ h).Post (fun c h1 => match c with
    | .lst xs => Q (.v (.lst xs)) h1
    | .dK ks vs => Q (.v (.dct ks vs)) h1
    | .dT _ _ => False) E) : (den T call (.fz c) σ h).Post Q E := by
  unfold den; rw [post_bind]
  refine Post.imp q (fun x h1 z => ?_) fun _ _ z => z
  cases x <;> first | exact z | exact z.elim
theorem p_cl {c : Fx} {Q : EV → MH → Prop} (q : (denF T call c σ h).Post (fun c h1 => Q (.v (.ref h1.length)) (h1 ++ [.ct c])) E) : (den T call (.cl c) σ h).Post Q E := by
  unfold den; rw [post_bind]; exact q
theorem p_fld {a : Ex} {f : String} {Q : EV → MH → Prop} (q : (den T call a σ h).Post (fun x h1 => asV x fun x => (fldOf T x f h1).Post Q E) E) : (den T call (.fld a f) σ h).Post Q E := by
  unfold den; rw [post_vb]; exact q
theorem p_ix {a b : Ex} {Q : EV → MH → Prop} (q : (den T call a σ h).Post (fun x h1 => (den T call b σ h1).Post (fun y h2 => (evIx x y h2).Post (fun z h3 => Q (.v z) h3) E) E) E) : (den T call (.ix a b) σ h).Post Q E := by
  unfold den; simp only [post_bind, post_ok]; exact q
theorem p_sl {a : Ex} {lo hi : Exo} {Q : EV → MH → Prop} (q : (den T call a σ h).Post (fun x h1 => (denO T call lo σ h1).Post (fun i h2 => (denO T call hi σ h2).Post (fun j h3 => (evSl x i j h3).Post (fun z h4 => Q (.v z) h4) E) E) E) E) : (den T call (.sl a lo hi) σ h).Post Q E := by
  unfold den; simp only [post_bind, post_ok]; exact q
theorem p_call {f : Nat} {es : Exs} {Q : EV → MH → Prop} (q : (dens T call es σ h).Post (fun xs h1 => (call f xs h1).Post (fun z h2 => Q (.v z) h2) E) E) : (den T call (.call f es) σ h).Post Q E := by
  unfold den; simp only [post_bind, post_ok]; exact q
theorem p_meth {a : Ex} {m : String} {es : Exs} {Q : EV → MH → Prop} (q : (den T call a σ h).Post (fun x h1 => asV x fun x => isO ((clsOf x m h1).bind fun c => T.meth c m) fun f => (dens T call es σ h1).Post (fun xs h2 => (call f (x :: xs) h2).Post (fun z h3 => Q (.v z) h3) E) E) E) : (den T call (.meth a m es) σ h).Post Q E := by
  unfold den; rw [post_vb]
  refine Post.imp q (fun x h1 z => ?_) fun _ _ z => z
  cases x with
  | v x =>
    obtain ⟨f, e, z⟩ := z
    show Res.Post (match (clsOf x m h1).bind fun c => T.meth c m with
      | some f => _
      | none => _) Q E
    rw [e]
    simp only [post_bind, post_ok]; exact z
  | w _ _ => exact z.elim
  | x _ => exact z.elim
theorem p_make {c : Nat} {es : Exs} {Q : EV → MH → Prop} (q : (dens T call es σ h).Post (fun xs h1 => isO (T.init c) fun f => (call f (.ref h1.length :: xs) (h1 ++ [.ins c []])).Post (fun z h2 => z = .non ∧ Q (.v (.ref h1.length)) h2) E) E) : (den T call (.make c es) σ h).Post Q E := by
  unfold den; rw [post_bind]
  refine Post.imp q (fun x h1 z => ?_) fun _ _ z => z
  obtain ⟨f, e, z⟩ := z
  rw [e]; dsimp only; rw [post_bind]
  refine Post.imp z (fun x h2 z => ?_) fun _ _ z => z
  obtain ⟨rfl, z⟩ := z
  exact z
theorem p_bi {b : Bi} {es : Exs} {Q : EV → MH → Prop} (q : (denE T call es σ h).Post (fun xs h1 => (evBi T b xs h1).Post (fun z h2 => Q (.v z) h2) E) E) : (den T call (.bi b es) σ h).Post Q E := by
  unfold den; simp only [post_bind, post_ok]; exact q
theorem p_join {a b : Ex} {Q : EV → MH → Prop} (q : (den T call a σ h).Post (fun x h1 => ∃ s, x = .v (.str s) ∧ (den T call b σ h1).Post (fun y h2 => (evJoin s y h2).Post (fun z h3 => Q (.v z) h3) E) E) E) : (den T call (.join a b) σ h).Post Q E := by
  unfold den; rw [post_vb]
  refine Post.imp q (fun x h1 z => ?_) fun _ _ z => z
  obtain ⟨s, rfl, z⟩ := z
  show Res.Post ((den T call b σ h1).bind _) Q E
  simp only [post_bind, post_ok]; exact z
theorem p_isx {i c : Nat} {x : String} {v : MV} {b : Bool} {Q : EV → MH → Prop} (e : σ[i]? = some (.exc c)) (eb : excIs T c v = some b) (q : Q (.v (.bl b)) h) : (den T call (.isx i x v) σ h).Post Q E := by unfold den; simp only [e, eb]; exact q
theorem p_lenO {a : Ex} {Q : EV → MH → Prop} (q : (den T call a σ h).Post (fun x h1 => asV x fun x => isO ((clsOf x "__len__" h1).bind fun c => T.meth c "__len__") fun f => (call f [x] h1).Post (fun z h2 => ∃ i, z = .int i ∧ (0 ≤ i ∧ i < 2 ^ 62) ∧ Q (.v (.int i)) h2) E) E) : (den T call (.lenO a) σ h).Post Q E := by
  unfold den; rw [post_vb]
  refine Post.imp q (fun x h1 z => ?_) fun _ _ z => z
  cases x with
  | v x =>
    obtain ⟨f, e, z⟩ := z
    show Res.Post (match (clsOf x "__len__" h1).bind fun c => T.meth c "__len__" with
      | some f => _
      | none => _) Q E
    rw [e]
    dsimp only
    rw [post_bind]
    refine Post.imp z (fun y h2 z => ?_) fun _ _ z => z
    obtain ⟨i, rfl, c, z⟩ := z
    show Res.Post (if _ then _ else _) Q E
    rw [if_pos c]; exact z
  | w _ _ => exact z.elim
  | x _ => exact z.elim
theorem p_dens0 {Q : List MV → MH → Prop} (q : Q [] h) : (dens T call .nil σ h).Post Q E := by unfold dens; exact q
theorem p_dens1 {e : Ex} {es : Exs} {Q : List MV → MH → Prop} (q : (den T call e σ h).Post (fun x h1 => asV x fun x => (dens T call es σ h1).Post (fun xs h2 => Q (x :: xs) h2) E) E) : (dens T call (.cons e es) σ h).Post Q E := by
  unfold dens; simp only [post_vb, post_bind, post_ok]; exact q
theorem p_denE0 {Q : List EV → MH → Prop} (q : Q [] h) : (denE T call .nil σ h).Post Q E := by unfold denE; exact q
theorem p_denE1 {e : Ex} {es : Exs} {Q : List EV → MH → Prop} (q : (den T call e σ h).Post (fun x h1 => (denE T call es σ h1).Post (fun xs h2 => Q (x :: xs) h2) E) E) : (denE T call (.cons e es) σ h).Post Q E := by
  unfold denE; simp only [post_bind, post_ok]; exact q
theorem p_denO0 {Q : Option Int → MH → Prop} (q : Q none h) : (denO T call .no σ h).Post Q E := by unfold denO; exact q
theorem p_denO1 {e : Ex} {Q : Option Int → MH → Prop} (q : (den T call e σ h).Post (fun x h1 => ∃ i, x = .v (.int i) ∧ Q (some i) h1) E) : (denO T call (.yes e) σ h).Post Q E := by
  unfold denO; rw [post_vb]
  refine Post.imp q (fun x h1 z => ?_) fun _ _ z => z
  obtain ⟨i, rfl, z⟩ := z
  exact z
/-! ### fresh containers -/
theorem p_lst {es : Exs} {Q : Ct → MH → Prop} (q : (dens T call es σ h).Post (fun xs h1 => cnd (xs.length ≤ sizeLine) (Q (.lst xs) h1)) E) : (denF T call (.lst es) σ h).Post Q E := by
  unfold denF; rw [post_bind]
  refine Post.imp q (fun x h1 z => ?_) fun _ _ z => z
  rw [if_pos z.1]; exact z.2
theorem p_dnew {Q : Ct → MH → Prop} (q : Q (.dK [] []) h) : (denF T call .dnew σ h).Post Q E := by unfold denF; exact q
theorem p_cat {a b : Ex} {Q : Ct → MH → Prop} (q : (den T call a σ h).Post (fun x h1 => (den T call b σ h1).Post (fun y h2 => isO (lstOf x h2) fun xs => isO (lstOf y h2) fun ys => cnd (xs.length + ys.length ≤ sizeLine) (Q (.lst (xs ++ ys)) h2)) E) E) : (denF T call (.cat a b) σ h).Post Q E := by
  unfold denF; simp only [post_bind]
  refine Post.imp q (fun x h1 z => Post.imp z (fun y h2 z => ?_) fun _ _ z => z) fun _ _ z => z
  obtain ⟨xs, e1, ys, e2, z1, z2⟩ := z
  rw [e1, e2]
  dsimp only
  rw [if_pos z1]; exact z2
theorem p_slc {a : Ex} {lo hi : Exo} {Q : Ct → MH → Prop} (q : (den T call a σ h).Post (fun x h1 => (denO T call lo σ h1).Post (fun i h2 => (denO T call hi σ h2).Post (fun j h3 => isO (lstOf x h3) fun xs => Q (.lst (cutM xs i j)) h3) E) E) E) : (denF T call (.slc a lo hi) σ h).Post Q E := by
  unfold denF; simp only [post_bind]
  refine Post.imp q (fun x h1 z => Post.imp z (fun y h2 z => Post.imp z (fun y h2 z => ?_) fun _ _ z => z) fun _ _ z => z) fun _ _ z => z
  obtain ⟨xs, e1, z⟩ := z
  rw [e1]; exact z
theorem p_list {a : Ex} {Q : Ct → MH → Prop} (q : (den T call a σ h).Post (fun x h1 => isO (seqOf x h1) fun xs => Q (.lst xs) h1) E) : (denF T call (.list a) σ h).Post Q E := by
  unfold denF; simp only [post_bind]
  refine Post.imp q (fun x h1 z => ?_) fun _ _ z => z
  obtain ⟨xs, e1, z⟩ := z
  rw [e1]; exact z
theorem p_comp {x : Tg} {it : Ite} {c : Exo} {e : Ex} {Q : Ct → MH → Prop} (q : (denI T call it σ h).Post (fun iw h1 => (compL (denC T call c) (fun σ h => (den T call e σ h).vl) x iw.2 iw.1 (wipeM σ x.own) iw.1 [] h1).Post (fun xs h2 => Q (.lst xs) h2) E) E) : (denF T call (.comp x it c e) σ h).Post Q E := by
  unfold denF; simp only [post_bind, post_ok]; exact q
theorem p_split {a b : Ex} {Q : Ct → MH → Prop} (q : (den T call a σ h).Post (fun x h1 => ∃ s, x = .v (.str s) ∧ (den T call b σ h1).Post (fun y h2 => ∃ t, y = .v (.str t) ∧ ((t.length == 0) = false ∧ s.length + 2 ≤ sizeLine) ∧ Q (.lst ((Txt.split s t).map .str)) h2) E) E) : (denF T call (.split a b) σ h).Post Q E := by
  unfold denF; rw [post_vb]
  refine Post.imp q (fun x h1 z => ?_) fun _ _ z => z
  obtain ⟨s, rfl, z⟩ := z
  show Res.Post (Res.vb _ _) Q E
  rw [post_vb]
  refine Post.imp z (fun y h2 z => ?_) fun _ _ z => z
  obtain ⟨t, rfl, c, z⟩ := z
  show Res.Post (if _ then _ else _) Q E
  rw [if_pos c]; exact z
theorem p_denC0 {Q : Bool → MH → Prop} (q : Q true h) : (denC T call .no σ h).Post Q E := by unfold denC; exact q
theorem p_denC1 {e : Ex} {Q : Bool → MH → Prop} (q : (den T call e σ h).Post (fun x h1 => isB x h1 fun k => Q k h1) E) : (denC T call (.yes e) σ h).Post Q E := by
  unfold denC; rw [post_bool]; exact q
/-! ### what is walked -/
theorem p_over {a : Ex} {Q : List MV × Option Nat → MH → Prop} (q : (den T call a σ h).Post (fun x h1 => isO (overOf x h1) fun r => Q r h1) E) : (denI T call (.over a) σ h).Post Q E := by
  unfold denI; rw [post_bind]
  refine Post.imp q (fun x h1 z => ?_) fun _ _ z => z
  obtain ⟨xs, e1, z⟩ := z
  rw [e1]; exact z
/-- a bound of a range -/
def rng (e : EV) (Q : Int → Prop) : Prop := ∃ n, e = .v (.int n) ∧ (-(2 ^ 62) ≤ n ∧ n < 2 ^ 62) ∧ Q n
theorem p_range1 {a : Ex} {Q : List MV × Option Nat → MH → Prop} (q : (den T call a σ h).Post (fun x h1 => rng x fun n => Q (rangeL 0 n.toNat, none) h1) E) : (denI T call (.range1 a) σ h).Post Q E := by
  unfold denI; rw [post_vb]
  refine Post.imp q (fun x h1 z => ?_) fun _ _ z => z
  obtain ⟨n, rfl, z1, z2⟩ := z
  show Res.Post (if _ then _ else _) Q E
  rw [if_pos z1]; exact z2
theorem p_range2 {a b : Ex} {Q : List MV × Option Nat → MH → Prop} (q : (den T call a σ h).Post (fun x h1 => asV x fun x => (den T call b σ h1).Post (fun y h2 => ∃ lo hi, x = .int lo ∧ y = .v (.int hi) ∧ ((-(2 ^ 62) ≤ lo ∧ lo < 2 ^ 62) ∧ (-(2 ^ 62) ≤ hi ∧ hi < 2 ^ 62)) ∧ Q (rangeL lo (hi - lo).toNat, none) h2) E) E) : (denI T call (.range2 a b) σ h).Post Q E := by
  unfold denI; simp only [post_vb]
  refine Post.imp q (fun x h1 z => ?_) fun _ _ z => z
  cases x with
  | v x =>
    refine Post.imp z (fun y h2 z => ?_) fun _ _ z => z
    obtain ⟨lo, hi, rfl, rfl, z1, z2⟩ := z
    show Res.Post (if _ then _ else _) Q E
    rw [if_pos z1]; exact z2
  | w _ _ => exact z.elim
  | x _ => exact z.elim
theorem p_text {a : Ex} {Q : List MV × Option Nat → MH → Prop} (q : (den T call a σ h).Post (fun x h1 => ∃ z, x = .v (.str z) ∧ Q (z.cps.toList.map fun c => .str ⟨#[c]⟩, none) h1) E) : (denI T call (.text a) σ h).Post Q E := by
  unfold denI; rw [post_vb]
  refine Post.imp q (fun x h1 z => ?_) fun _ _ z => z
  obtain ⟨n, rfl, z⟩ := z
  exact z
theorem p_zip {a b : Ex} {Q : List MV × Option Nat → MH → Prop} (q : (den T call a σ h).Post (fun x h1 => asV x fun x => (den T call b σ h1).Post (fun y h2 => ∃ xs ys, x = .tup xs ∧ y = .v (.tup ys) ∧ Q ((xs.zip ys).map fun p => .tup [p.1, p.2], none) h2) E) E) : (denI T call (.zip a b) σ h).Post Q E := by
  unfold denI; simp only [post_vb]
  refine Post.imp q (fun x h1 z => ?_) fun _ _ z => z
  cases x with
  | v x =>
    refine Post.imp z (fun y h2 z => ?_) fun _ _ z => z
    obtain ⟨lo, hi, rfl, rfl, z⟩ := z
    exact z
  | w _ _ => exact z.elim
  | x _ => exact z.elim
end
theorem ex_str {s : Str} {Q : Str → Prop} (q : Q s) : ∃ z, (EV.v (.str s)) = .v (.str z) ∧ Q z := ⟨s, rfl, q⟩
theorem ex_rng {i : Int} {Q : Int → Prop} (b : -(2 ^ 62) ≤ i ∧ i < 2 ^ 62) (q : Q i) : rng (.v (.int i)) Q := ⟨i, rfl, b, q⟩

/-! ### statements -/
/-- what is wished for at a block's ends -/
structure Ks where
  nx : ML → MH → Prop
  rt : MV → MH → Prop
  bk : ML → MH → Prop := fun _ _ => False
  ct : ML → MH → Prop := fun _ _ => False
  ex : Nat → ML → MH → Prop := fun _ _ _ => False
def SO.P (s : SO) (K : Ks) : Prop := match s with
  | .nx σ h => K.nx σ h
  | .rt v h => K.rt v h
  | .bk σ h => K.bk σ h
  | .ct σ h => K.ct σ h
  | .exc c σ h => K.ex c σ h
  | .bad => False
theorem P_go {α : Type} (r : Res α) (σ : ML) (f : α → MH → SO) (K : Ks) : (r.go σ f).P K = r.Post (fun a h => (f a h).P K) (fun c h => K.ex c σ h) := by cases r <;> rfl
theorem P_seq (s : SO) (f : ML → MH → SO) (K : Ks) : (s.seq f).P K = s.P { K with nx := fun σ h => (f σ h).P K } := by cases s <;> rfl
theorem P_imp {s : SO} {K K' : Ks} (p : s.P K) (nx : ∀ σ h, K.nx σ h → K'.nx σ h) (rt : ∀ σ h, K.rt σ h → K'.rt σ h) (bk : ∀ σ h, K.bk σ h → K'.bk σ h) (ct : ∀ σ h, K.ct σ h → K'.ct σ h) (ex : ∀ c σ h, K.ex c σ h → K'.ex c σ h) : s.P K' := by
  cases s <;> first | exact nx _ _ p | exact rt _ _ p | exact bk _ _ p | exact ct _ _ p | exact ex _ _ _ p | exact p
section
variable {T : Tb} {call : Nat → List MV → MH → Res MV} {W : Nat} {σ : ML} {h : MH} {K : Ks}
theorem s_nil (q : K.nx σ h) : (execs T call W .nil σ h).P K := by unfold execs; exact q
theorem s_one {s : Sx} (q : (exec T call W s σ h).P K) : (execs T call W (.cons s .nil) σ h).P K := by
  unfold execs; rw [P_seq]
  have e : execs T call W .nil = fun σ h => SO.nx σ h := by unfold execs; rfl
  rw [e]; exact q
theorem s_cons {s : Sx} {ss : Sxs} (q : (exec T call W s σ h).P { K with nx := fun σ h => (execs T call W ss σ h).P K }) : (execs T call W (.cons s ss) σ h).P K := by
  unfold execs; rw [P_seq]; exact q
theorem s_set {i : Nat} {e : Ex} (q : (den T call e σ h).Post (fun x h1 => asV x fun v => setTo σ i (.val v) fun σ => K.nx σ h1) (fun c h => K.ex c σ h)) : (exec T call W (.set i e) σ h).P K := by
  unfold exec; rw [P_go, post_vl]
  refine Post.imp q (fun x h1 z => ?_) fun _ _ z => z
  cases x with
  | v x =>
    show SO.P (if _ then _ else _) K
    rw [if_pos z.1]; exact z.2
  | w _ _ => exact z.elim
  | x _ => exact z.elim
theorem s_setOwn {i : Nat} {c : Fx} (q : (denF T call c σ h).Post (fun c h1 => setTo σ i (.own c) fun σ => K.nx σ h1) (fun c h => K.ex c σ h)) : (exec T call W (.setOwn i c) σ h).P K := by
  unfold exec; rw [P_go]
  refine Post.imp q (fun x h1 z => ?_) fun _ _ z => z
  rw [if_pos z.1]; exact z.2
theorem s_unp {is : List Nat} {e : Ex} (q : (den T call e σ h).Post (fun x h1 => ∃ vs, x = .v (.tup vs) ∧ isO (setAll σ is vs) fun σ1 => K.nx σ1 h1) (fun c h => K.ex c σ h)) : (exec T call W (.unp is e) σ h).P K := by
  unfold exec; rw [P_go]
  refine Post.imp q (fun x h1 z => ?_) fun _ _ z => z
  obtain ⟨vs, rfl, σ1, e, z⟩ := z
  show SO.P (match setAll σ is vs with
    | some σ1 => _
    | none => _) K
  rw [e]; exact z
theorem s_setFld {a e : Ex} {f : String} (q : (den T call e σ h).Post (fun x h1 => asV x fun v => (den T call a σ h1).Post (fun y h2 => asV y fun x => (setFd T x f (.val v) σ h2).P K) (fun c h => K.ex c σ h)) (fun c h => K.ex c σ h)) : (exec T call W (.setFld a f e) σ h).P K := by
  unfold exec; simp only [P_go, post_vl]; exact q
theorem s_aug {i : Nat} {o : B2} {e : Ex} {x : MV} (ex : σ[i]? = some (.val x)) (fx : isFlat x = true) (q : (den T call e σ h).Post (fun y h1 => asV y fun y => (ev2 o (.v x) (.v y) h1).Post (fun v h2 => K.nx (σ.set i (.val v)) h2) (fun c h => K.ex c σ h)) (fun c h => K.ex c σ h)) : (exec T call W (.aug i o e) σ h).P K := by
  unfold exec; simp only [ex, fx, if_true, P_go, post_vl]; exact q
theorem s_augFld {a e : Ex} {f : String} {o : B2} (q : (den T call a σ h).Post (fun x h1 => asV x fun x => isO (flatAt T x f h1) fun cy => (den T call e σ h1).Post (fun z h3 => asV z fun z => (ev2 o (.v cy.2) (.v z) h3).Post (fun v h4 => clsAt x h4 = some cy.1 ∧ (setFd T x f (.val v) σ h4).P K) (fun c h => K.ex c σ h)) (fun c h => K.ex c σ h)) (fun c h => K.ex c σ h)) : (exec T call W (.augFld a f o e) σ h).P K := by
  unfold exec; simp only [P_go, post_vl]
  refine Post.imp q (fun x h1 z => ?_) fun _ _ z => z
  cases x with
  | v x =>
    obtain ⟨⟨c, y⟩, e1, z⟩ := z
    show SO.P (match flatAt T x f h1 with
      | some (c, y) => _
      | none => _) K
    rw [e1]
    dsimp only
    simp only [P_go, post_vl]
    refine Post.imp z (fun x h1 z => ?_) fun _ _ z => z
    cases x with
    | v x =>
      refine Post.imp z (fun x h1 z => ?_) fun _ _ z => z
      rw [if_pos z.1]; exact z.2
    | w _ _ => exact z.elim
    | x _ => exact z.elim
  | w _ _ => exact z.elim
  | x _ => exact z.elim
theorem s_setIx {a b e : Ex} (q : (den T call e σ h).Post (fun x h1 => asV x fun v => (den T call a σ h1).Post (fun x h2 => (den T call b σ h2).Post (fun y h3 => asV y fun y => isO ((ctOf x h3).bind fun c => setCt c y v) fun c => (putPl x c σ h3).P K) (fun c h => K.ex c σ h)) (fun c h => K.ex c σ h)) (fun c h => K.ex c σ h)) : (exec T call W (.setIx a b e) σ h).P K := by
  unfold exec; simp only [P_go, post_vl]
  refine Post.imp q (fun x h1 z => ?_) fun _ _ z => z
  cases x with
  | v v =>
    refine Post.imp z (fun x h1 z => ?_) fun _ _ z => z
    refine Post.imp z (fun y h1 z => ?_) fun _ _ z => z
    cases y with
    | v y =>
      obtain ⟨c, e1, z⟩ := z
      show SO.P (match (ctOf x h1).bind fun c => setCt c y v with
        | some c => _
        | none => _) K
      rw [e1]; exact z
    | w _ _ => exact z.elim
    | x _ => exact z.elim
  | w _ _ => exact z.elim
  | x _ => exact z.elim
theorem s_delIx {a b : Ex} (q : (den T call a σ h).Post (fun x h2 => (den T call b σ h2).Post (fun y h3 => asV y fun y => isO ((ctOf x h3).bind fun c => delCt c y) fun c => (putPl x c σ h3).P K) (fun c h => K.ex c σ h)) (fun c h => K.ex c σ h)) : (exec T call W (.delIx a b) σ h).P K := by
  unfold exec; simp only [P_go, post_vl]
  refine Post.imp q (fun x h1 z => ?_) fun _ _ z => z
  refine Post.imp z (fun y h1 z => ?_) fun _ _ z => z
  cases y with
  | v y =>
    obtain ⟨c, e1, z⟩ := z
    show SO.P (match (ctOf x h1).bind fun c => delCt c y with
      | some c => _
      | none => _) K
    rw [e1]; exact z
  | w _ _ => exact z.elim
  | x _ => exact z.elim
theorem s_mut {m : Mu} {a e : Ex} (q : (den T call a σ h).Post (fun x h1 => ∃ xs, ctOf x h1 = some (.lst xs) ∧ (den T call e σ h1).Post (fun y h2 => isO ((ctOf x h2).bind fun c => mutCt m c y h2) fun c => (putPl x c σ h2).P K) (fun c h => K.ex c σ h)) (fun c h => K.ex c σ h)) : (exec T call W (.mut m a e) σ h).P K := by
  unfold exec; simp only [P_go]
  refine Post.imp q (fun x h1 z => ?_) fun _ _ z => z
  obtain ⟨xs, e1, z⟩ := z
  rw [e1]; dsimp only; rw [P_go]
  refine Post.imp z (fun y h1 z => ?_) fun _ _ z => z
  obtain ⟨c, e1, z⟩ := z
  rw [e1]; exact z
theorem s_exp {e : Ex} (q : (den T call e σ h).Post (fun _ h1 => K.nx σ h1) (fun c h => K.ex c σ h)) : (exec T call W (.exp e) σ h).P K := by
  unfold exec; rw [P_go]; exact q
theorem s_ret {e : Ex} (q : (den T call e σ h).Post (fun x h1 => asV x fun v => K.rt v h1) (fun c h => K.ex c σ h)) : (exec T call W (.ret e) σ h).P K := by
  unfold exec; rw [P_go, post_vl]; exact q
theorem s_retN (q : K.rt .non h) : (exec T call W .retN σ h).P K := by unfold exec; exact q
theorem s_ite {c : Ex} {t e : Sxs} (q : (den T call c σ h).Post (fun x h1 => isB x h1 fun k => bth (k = true → (execs T call W t σ h1).P K) (k = false → (execs T call W e σ h1).P K)) (fun c h => K.ex c σ h)) : (exec T call W (.ite c t e) σ h).P K := by
  unfold exec; rw [P_go, post_bool]
  refine Post.imp q (fun x h1 z => ?_) fun _ _ z => z
  obtain ⟨k, e, z1, z2⟩ := z
  refine ⟨k, e, ?_⟩
  cases k with
  | true => exact z1 rfl
  | false => exact z2 rfl
theorem s_for {x : Tg} {it : Ite} {b : Sxs} (q : (denI T call it σ h).Post (fun iw h1 => (forL x iw.2 iw.1 (execs T call W b) iw.1 σ h1).P K) (fun c h => K.ex c σ h)) : (exec T call W (.for x it b) σ h).P K := by
  unfold exec; rw [P_go]; exact q
theorem s_whil {c : Ex} {b : Sxs} (q : (whiL (fun σ h => (den T call c σ h).bool) (execs T call W b) W σ h).P K) : (exec T call W (.whil c b) σ h).P K := by unfold exec; exact q
theorem s_brk (q : K.bk σ h) : (exec T call W .brk σ h).P K := by unfold exec; exact q
theorem s_cnt (q : K.ct σ h) : (exec T call W .cnt σ h).P K := by unfold exec; exact q
theorem s_pas (q : K.nx σ h) : (exec T call W .pas σ h).P K := by unfold exec; exact q
theorem s_raise {c : Nat} (q : K.ex c σ h) : (exec T call W (.raise c) σ h).P K := by unfold exec; exact q
theorem s_try {b : Sxs} {hs : Hds} (q : (execs T call W b σ h).P { K with ex := fun c σ h => (handle T call W c hs σ h).P K }) : (exec T call W (.try b hs) σ h).P K := by
  unfold exec
  cases e : execs T call W b σ h <;> rw [e] at q <;> exact q
theorem s_freeze {i : Nat} (q : isO (freezeM i σ) fun σ1 => K.nx σ1 h) : (exec T call W (.freeze i) σ h).P K := by
  obtain ⟨σ1, e, z⟩ := q
  unfold exec; simp only [e]; exact z
theorem s_hd0 {c : Nat} (q : K.ex c σ h) : (handle T call W c .nil σ h).P K := by unfold handle; exact q
theorem s_hdN {c d : Nat} {as : Option Nat} {b : Sxs} {hs : Hds} (e : T.exs c d = some false) (q : (handle T call W c hs σ h).P K) : (handle T call W c (.cons d as b hs) σ h).P K := by unfold handle; simp only [e]; exact q
theorem s_hdY {c d : Nat} {b : Sxs} {hs : Hds} (e : T.exs c d = some true) (q : (execs T call W b σ h).P { K with ex := fun _ _ _ => False }) : (handle T call W c (.cons d none b hs) σ h).P K := by
  unfold handle; simp only [e]
  cases er : execs T call W b σ h <;> rw [er] at q <;> first | exact q | exact q.elim
theorem s_hdA {c d i : Nat} {b : Sxs} {hs : Hds} (e : T.exs c d = some true) (q : (execs T call W b ((noX σ).set i (.exc c)) h).P { nx := fun σ h => K.nx (noX (σ.set i .un)) h, rt := K.rt, bk := fun σ h => K.bk (noX (σ.set i .un)) h, ct := fun σ h => K.ct (noX (σ.set i .un)) h }) : (handle T call W c (.cons d (some i) b hs) σ h).P K := by
  unfold handle; simp only [e]
  cases er : execs T call W b ((noX σ).set i (.exc c)) h <;> rw [er] at q <;> first | exact q | exact q.elim
/-! ### loops -/
theorem s_forL0 {x : Tg} {w : Option Nat} {ws : List MV} {body : ML → MH → SO} (q : K.nx σ h) : (forL x w ws body [] σ h).P K := by unfold forL; exact q
theorem s_forL1 {x : Tg} {w : Option Nat} {ws : List MV} {body : ML → MH → SO} {v : MV} {r : List MV} (q : isO (asg x v σ) fun σ1 => (body σ1 h).P { K with nx := fun σ2 h2 => still w ws h2 = true ∧ (forL x w ws body r σ2 h2).P K, ct := fun σ2 h2 => still w ws h2 = true ∧ (forL x w ws body r σ2 h2).P K, bk := K.nx }) : (forL x w ws body (v :: r) σ h).P K := by
  obtain ⟨σ1, e, z⟩ := q
  unfold forL; simp only [e]
  cases eb : body σ1 h <;> rw [eb] at z <;> first | exact z | (dsimp only; rw [if_pos z.1]; exact z.2)
/-- a loop by its invariant: I of the items that are left -/
theorem s_forI {x : Tg} {w : Option Nat} {ws : List MV} {body : ML → MH → SO} (I : List MV → ML → MH → Prop) (items : List MV)
    (step : ∀ v r σ h, I (v :: r) σ h → isO (asg x v σ) fun σ1 => (body σ1 h).P { K with nx := fun σ2 h2 => still w ws h2 = true ∧ I r σ2 h2, ct := fun σ2 h2 => still w ws h2 = true ∧ I r σ2 h2, bk := K.nx })
    (last : ∀ σ h, I [] σ h → K.nx σ h) : ∀ σ h, I items σ h → (forL x w ws body items σ h).P K := by
  induction items with
  | nil => exact fun σ h i => s_forL0 (last σ h i)
  | cons v r ih =>
    intro σ h i
    obtain ⟨σ1, e, z⟩ := step v r σ h i
    refine s_forL1 ⟨σ1, e, P_imp z (fun σ h z => ⟨z.1, ih σ h z.2⟩) (fun _ _ z => z) (fun _ _ z => z) (fun σ h z => ⟨z.1, ih σ h z.2⟩) fun _ _ _ z => z⟩
end
/-- a comprehension by its invariant: I of what is left and what was made -/
theorem p_compI {tst : ML → MH → Res Bool} {elt : ML → MH → Res MV} {x : Tg} {w : Option Nat} {ws : List MV} {σ : ML} {Q : List MV → MH → Prop} {E : Nat → MH → Prop} (I : List MV → List MV → MH → Prop) (items : List MV)
    (step : ∀ v r acc h, I (v :: r) acc h → isO (asg x v σ) fun σ1 => (tst σ1 h).Post (fun k h1 => bth (k = true → (elt σ1 h1).Post (fun y h2 => acc.length < sizeLine ∧ still w ws h2 = true ∧ I r (acc ++ [y]) h2) (fun _ _ => False)) (k = false → still w ws h1 = true ∧ I r acc h1)) (fun _ _ => False))
    (last : ∀ acc h, I [] acc h → Q acc h) : ∀ acc h, I items acc h → (compL tst elt x w ws σ items acc h).Post Q E := by
  induction items with
  | nil => exact fun acc h i => last acc h i
  | cons v r ih =>
    intro acc h i
    obtain ⟨σ1, e, z⟩ := step v r acc h i
    unfold compL; simp only [e]
    cases et : tst σ1 h with
    | ok k h1 =>
      rw [et] at z
      obtain ⟨z1, z2⟩ := z
      cases k with
      | true =>
        have z1 := z1 rfl
        dsimp only
        cases ee : elt σ1 h1 with
        | ok y h2 =>
          rw [ee] at z1
          dsimp only
          rw [if_pos ⟨z1.1, z1.2.1⟩]
          exact ih _ _ z1.2.2
        | exc _ _ => rw [ee] at z1; exact z1.elim
        | bad => rw [ee] at z1; exact z1.elim
      | false =>
        have z2 := z2 rfl
        dsimp only
        rw [if_pos z2.1]
        exact ih _ _ z2.2
    | exc _ _ => rw [et] at z; exact z.elim
    | bad => rw [et] at z; exact z.elim

/-! ### defs -/
theorem p_callF {T : Tb} {W n f : Nat} {fns : Nat → Option Df} {d : Df} {xs : List MV} {h : MH} {Q : MV → MH → Prop} {E : Nat → MH → Prop} (hf : fns f = some d) (hk : xs.length = d.k) (hz : d.fz = false)
    (q : (execs T (callF T W fns n) W d.body (xs.map .val ++ List.replicate (d.n - d.k) .un) h).P { nx := fun _ h => Q .non h, rt := Q, ex := fun c _ h => E c h }) : (callF T W fns (n + 1) f xs h).Post Q E := by
  have e : callF T W fns (n + 1) f xs h = match fns f with
    | none => .bad
    | some d => if xs.length = d.k then (match execs T (callF T W fns n) W d.body (xs.map .val ++ List.replicate (d.n - d.k) .un) h with
      | .nx _ h1 => .ok .non h1
      | .rt v h1 => if d.fz then (match v with
        | .ref m => if m = h.length then (match frzTop h h1 with
          | some v => .ok v h
          | none => .bad) else .bad
        | _ => .bad) else .ok v h1
      | .exc c _ h1 => .exc c h1
      | _ => .bad) else .bad := by rw [callF]; first | done | rfl
  rw [e, hf]
  dsimp only
  rw [if_pos hk, hz]
  cases er : execs T (callF T W fns n) W d.body (xs.map .val ++ List.replicate (d.n - d.k) .un) h <;> rw [er] at q <;> exact q
/-! ### operators -/
section
variable {h : MH} {Q : MV → MH → Prop} {E : Nat → MH → Prop}
theorem o_add {i j : Int} (q : Q (.int (i + j)) h) : (ev2 .add (.v (.int i)) (.v (.int j)) h).Post Q E := q
theorem o_sub {i j : Int} (q : Q (.int (i - j)) h) : (ev2 .sub (.v (.int i)) (.v (.int j)) h).Post Q E := q
theorem o_mul {i j : Int} (c : (-(2 ^ 64) < i ∧ i < 2 ^ 64) ∨ (-(2 ^ 64) < j ∧ j < 2 ^ 64)) (q : Q (.int (i * j)) h) : (ev2 .mul (.v (.int i)) (.v (.int j)) h).Post Q E := by
  have m : mulOk i j = true := by
    unfold mulOk
    rw [Bool.or_eq_true, decide_eq_true_eq, decide_eq_true_eq]; exact c
  show Res.Post (if mulOk i j then _ else _) Q E
  rw [if_pos m]; exact q
theorem o_rep {i : Str} {j : Int} (c : repOk i j = true) (q : Q (.str (repS i j)) h) : (ev2 .mul (.v (.str i)) (.v (.int j)) h).Post Q E := by
  show Res.Post (if repOk i j then _ else _) Q E
  rw [if_pos c]; exact q
theorem o_mod {i j : Int} (c : 0 < j) (q : Q (.int (i % j)) h) : (ev2 .mod (.v (.int i)) (.v (.int j)) h).Post Q E := by
  show Res.Post (if _ then _ else _) Q E
  rw [if_pos c]; exact q
theorem o_fdiv {i j : Int} (c : 0 < j ∧ j < 18446744073709551616) (q : Q (.int (i / j)) h) : (ev2 .fdiv (.v (.int i)) (.v (.int j)) h).Post Q E := by
  show Res.Post (if _ then _ else _) Q E
  rw [if_pos c]; exact q
theorem o_pow {i j : Int} (c : 0 ≤ j ∧ j ≤ 1000000 ∧ i.natAbs < 2 ^ 64) (q : Q (.int (i ^ j.toNat)) h) : (ev2 .pow (.v (.int i)) (.v (.int j)) h).Post Q E := by
  show Res.Post (if _ then _ else _) Q E
  rw [if_pos c]; exact q
theorem o_lt {i j : Int} (q : Q (.bl (decide (i < j))) h) : (ev2 .lt (.v (.int i)) (.v (.int j)) h).Post Q E := q
theorem o_le {i j : Int} (q : Q (.bl (decide (i ≤ j))) h) : (ev2 .le (.v (.int i)) (.v (.int j)) h).Post Q E := q
theorem o_gt {i j : Int} (q : Q (.bl (decide (j < i))) h) : (ev2 .gt (.v (.int i)) (.v (.int j)) h).Post Q E := q
theorem o_ge {i j : Int} (q : Q (.bl (decide (j ≤ i))) h) : (ev2 .ge (.v (.int i)) (.v (.int j)) h).Post Q E := q
theorem o_adds {i j : Str} (c : i.length + j.length ≤ sizeLine) (q : Q (.str (i ++ j)) h) : (ev2 .add (.v (.str i)) (.v (.str j)) h).Post Q E := by
  show Res.Post (if _ then _ else _) Q E
  rw [if_pos c]; exact q
theorem o_lts {i j : Str} (q : Q (.bl (decide (i.cps.toList < j.cps.toList))) h) : (ev2 .lt (.v (.str i)) (.v (.str j)) h).Post Q E := q
theorem o_gts {i j : Str} (q : Q (.bl (decide (j.cps.toList < i.cps.toList))) h) : (ev2 .gt (.v (.str i)) (.v (.str j)) h).Post Q E := q
theorem o_addt {i j : List MV} (c : i.length + j.length ≤ sizeLine) (q : Q (.tup (i ++ j)) h) : (ev2 .add (.v (.tup i)) (.v (.tup j)) h).Post Q E := by
  show Res.Post (if _ then _ else _) Q E
  rw [if_pos c]; exact q
/-- flat, a text of real signs -/
def flatD : MV → Bool
  | .str s => s.cps.all fun c => decide (c < 0x110000)
  | x => isFlat x
theorem flat_eqv {x y : MV} (f : flatD x = true) (g : flatD y = true) : ∃ d e, dataOf h x = some d ∧ dataOf h y = some e ∧ shapedB d = true ∧ shapedB e = true ∧ PyData.eqv d e = flatEq x y := by
  have one : ∀ x : MV, flatD x = true → ∃ d, dataOf h x = some d ∧ shapedB d = true := by
    intro x f
    cases x with
    | str s =>
      refine ⟨.str s, by simp [dataOf], ?_⟩
      have e : PyData.canLay0 (.str s) = true := by rw [PyData.canLay0]; exact f
      show (PyData.canLay0 (.str s) && decide (PyData.depth (.str s) ≤ 64)) = true
      rw [e]; simp [PyData.depth]
    | non => exact ⟨.none, by simp [dataOf], by decide⟩
    | bl b => exact ⟨.bool b, by simp [dataOf], by cases b <;> decide⟩
    | int i =>
      refine ⟨.int i, by simp [dataOf], ?_⟩
      show (PyData.canLay0 (.int i) && decide (PyData.depth (.int i) ≤ 64)) = true
      simp [PyData.canLay0, PyData.depth]
    | _ => cases f
  obtain ⟨d, e1, s1⟩ := one x f
  obtain ⟨e, e2, s2⟩ := one y g
  refine ⟨d, e, e1, e2, s1, s2, ?_⟩
  cases x <;> first | (cases f; done) | skip
  all_goals cases y <;> first | (cases g; done) | (simp [dataOf] at e1 e2; subst e1 e2; simp [PyData.eqv, flatEq])
theorem dataE_flat {x : MV} (f : flatD x = true) : dataE (.v x) h = dataOf h x := by cases x <;> first | rfl | cases f
theorem o_eqF {x y : MV} (f : flatD x = true) (g : flatD y = true) (q : Q (.bl (flatEq x y)) h) : (ev2 .eq (.v x) (.v y) h).Post Q E := by
  obtain ⟨d, e, e1, e2, s1, s2, e3⟩ := flat_eqv (h := h) f g
  unfold ev2
  simp only [dataE_flat f, dataE_flat g, e1, e2, s1, s2, Bool.and_self, if_true, e3]
  exact q
theorem o_neF {x y : MV} (f : flatD x = true) (g : flatD y = true) (q : Q (.bl (!flatEq x y)) h) : (ev2 .ne (.v x) (.v y) h).Post Q E := by
  obtain ⟨d, e, e1, e2, s1, s2, e3⟩ := flat_eqv (h := h) f g
  unfold ev2
  simp only [dataE_flat f, dataE_flat g, e1, e2, s1, s2, Bool.and_self, if_true, e3]
  exact q
theorem o_eqI {x y : Int} (q : Q (.bl (decide (x = y))) h) : (ev2 .eq (.v (.int x)) (.v (.int y)) h).Post Q E := o_eqF rfl rfl q
theorem o_neI {x y : Int} (q : Q (.bl (!decide (x = y))) h) : (ev2 .ne (.v (.int x)) (.v (.int y)) h).Post Q E := o_neF rfl rfl q
theorem o_eqS {x y : Str} (f : flatD (.str x) = true) (g : flatD (.str y) = true) (q : Q (.bl (decide (x = y))) h) : (ev2 .eq (.v (.str x)) (.v (.str y)) h).Post Q E := o_eqF f g q
theorem o_neS {x y : Str} (f : flatD (.str x) = true) (g : flatD (.str y) = true) (q : Q (.bl (!decide (x = y))) h) : (ev2 .ne (.v (.str x)) (.v (.str y)) h).Post Q E := o_neF f g q
theorem o_isN {x : MV} (q : Q (.bl (match x with | .non => true | _ => false)) h) : (ev2 .is (.v x) (.v .non) h).Post Q E := by cases x <;> exact q
theorem o_isntN {x : MV} (q : Q (.bl (match x with | .non => false | _ => true)) h) : (ev2 .isnot (.v x) (.v .non) h).Post Q E := by cases x <;> exact q
theorem o_isB {a b : Bool} (q : Q (.bl (decide (a = b))) h) : (ev2 .is (.v (.bl a)) (.v (.bl b)) h).Post Q E := q
theorem o_isntB {a b : Bool} (q : Q (.bl (!decide (a = b))) h) : (ev2 .isnot (.v (.bl a)) (.v (.bl b)) h).Post Q E := q
theorem o_in {x y : EV} {k : Bool} (e : inEv x y h = some k) (q : Q (.bl k) h) : (ev2 .in x y h).Post Q E := by
  unfold ev2; simp only [e]; exact q
theorem o_notin {x y : EV} {k : Bool} (e : inEv x y h = some k) (q : Q (.bl !k) h) : (ev2 .notin x y h).Post Q E := by
  unfold ev2; simp only [e]; exact q
theorem x_tup {xs : List MV} {i : Int} {v : MV} (e : atI xs i = some v) (q : Q v h) : (evIx (.v (.tup xs)) (.v (.int i)) h).Post Q E := by
  show Res.Post (match atI xs i with
    | some v => _
    | none => _) Q E
  rw [e]; exact q
theorem x_seq {x : EV} {xs : List MV} {i : Int} {v : MV} (es : seqOf x h = some xs) (e : atI xs i = some v) (q : Q v h) : (evIx x (.v (.int i)) h).Post Q E := by
  have : evIx x (.v (.int i)) h = ixC x (.int i) h := by
    unfold evIx
    cases x with
    | v x => cases x <;> first | rfl | (cases es)
    | _ => rfl
  rw [this]
  unfold ixC
  simp only [es, e]; exact q
theorem x_str {s : Str} {i : Int} {c : Nat} (e : atI s.cps.toList i = some c) (hl : s.length ≤ sizeLine) (q : Q (.str ⟨#[c]⟩) h) : (evIx (.v (.str s)) (.v (.int i)) h).Post Q E := by
  show Res.Post (match atI s.cps.toList i with
    | some c => _
    | none => _) Q E
  rw [e]; dsimp only; rw [if_pos hl]; exact q
/-- any item: a place that is within -/
theorem atI_in {α : Type} {xs : List α} {i : Int} (h0 : 0 ≤ i) (h1 : i < xs.length) : ∃ v, atI xs i = some v ∧ v ∈ xs ∧ xs[i.toNat]? = some v := by
  have hl : i.toNat < xs.length := by omega
  refine ⟨xs[i.toNat], ?_, List.getElem_mem hl, List.getElem?_eq_getElem hl⟩
  unfold atI ixN
  rw [if_pos h0, if_pos h1]
  exact List.getElem?_eq_getElem hl
theorem x_any {x : EV} {xs : List MV} {i : Int} (es : seqOf x h = some xs) (h0 : 0 ≤ i) (h1 : i < xs.length) (q : ∀ v ∈ xs, Q v h) : (evIx x (.v (.int i)) h).Post Q E := by
  obtain ⟨v, e, m, _⟩ := atI_in h0 h1
  exact x_seq es e (q v m)
theorem x_dct {x : EV} {ks : List Key} {vs : List MV} {y v : MV} (en : seqOf x h = none) (es : dctOf x h = some (ks, vs)) (e : ((keyD x y).bind fun k => findK ks vs k) = some v) (q : Q v h) : (evIx x (.v y) h).Post Q E := by
  have : evIx x (.v y) h = ixC x y h := by
    unfold evIx
    cases x with
    | v x => cases x <;> first | rfl | (cases y <;> rfl) | (cases es)
    | _ => rfl
  rw [this]
  unfold ixC
  simp only [en, es, e]; exact q
theorem l_str {s : Str} {i j : Option Int} (hl : s.length ≤ sizeLine) (q : Q (.str (cutS s i j)) h) : (evSl (.v (.str s)) i j h).Post Q E := by
  show Res.Post (if _ then _ else _) Q E
  rw [if_pos hl]; exact q
theorem l_tup {s : List MV} {i j : Option Int} (q : Q (.tup (cutM s i j)) h) : (evSl (.v (.tup s)) i j h).Post Q E := q
/-! ### built-ins -/
theorem b_len {T : Tb} {x : EV} {n : Nat} (e : lenOf x h = some n) (q : Q (.int n) h) : (evBi T .len [x] h).Post Q E := by
  show (evLen x h).Post Q E
  unfold evLen; simp only [e]; exact q
theorem b_ord {T : Tb} {s : Str} (e : s.length = 1) (q : Q (.int ((s.cps.getD 0 0 : Nat) : Int)) h) : (evBi T .ord [.v (.str s)] h).Post Q E := by
  show (if _ then _ else _ : Res MV).Post Q E
  rw [if_pos e]; exact q
theorem b_int {T : Tb} {i : Int} (q : Q (.int i) h) : (evBi T .int [.v (.int i)] h).Post Q E := q
theorem b_intS {T : Tb} {s : Str} {n : Int} (e : PySem.intText? s = some n) (hl : s.length ≤ 640) (q : Q (.int n) h) : (evBi T .int [.v (.str s)] h).Post Q E := by
  show (match PySem.intText? s with
    | some n => if s.length ≤ 640 then Res.ok (.int n) h else .bad
    | none => .bad : Res MV).Post Q E
  rw [e]; dsimp only; rw [if_pos hl]; exact q
theorem b_str {T : Tb} {i : Int} (e : i.natAbs.log2 < 1920) (q : Q (.str (toString i : String)) h) : (evBi T .str [.v (.int i)] h).Post Q E := by
  show (if _ then _ else _ : Res MV).Post Q E
  rw [if_pos e]; exact q
theorem b_strS {T : Tb} {s : Str} (q : Q (.str s) h) : (evBi T .str [.v (.str s)] h).Post Q E := q
theorem b_tupT {T : Tb} {xs : List MV} (q : Q (.tup xs) h) : (evBi T .tuple [.v (.tup xs)] h).Post Q E := q
theorem b_tup {T : Tb} {x : EV} {xs : List MV} (e : lstOf x h = some xs) (q : Q (.tup xs) h) : (evBi T .tuple [x] h).Post Q E := by
  show (evTup x h).Post Q E
  have : evTup x h = .ok (.tup xs) h := by
    unfold evTup
    split
    · cases e
    · simp only [e]
  rw [this]; exact q
theorem b_sum {T : Tb} {x : EV} {ns : List Int} (e : (lstOf x h).bind intsOf = some ns) (q : Q (.int ns.sum) h) : (evBi T .sum [x] h).Post Q E := by
  show (evSum x h).Post Q E
  unfold evSum; simp only [e]; exact q
theorem b_max {T : Tb} {i j : Int} (q : Q (.int (if j > i then j else i)) h) : (evBi T .max [.v (.int i), .v (.int j)] h).Post Q E := q
theorem b_min {T : Tb} {i j : Int} (q : Q (.int (if j < i then j else i)) h) : (evBi T .min [.v (.int i), .v (.int j)] h).Post Q E := q
theorem b_isT {T : Tb} {x : EV} {t : String} {b : Bool} (e : ((kindOf x h).bind fun k => isTy T k t) = some b) (q : Q (.bl b) h) : (evBi T .isinst [x, .v (.ty t)] h).Post Q E := by
  show (evIsi T x (.v (.ty t)) h).Post Q E
  unfold evIsi; simp only [e]; exact q
theorem b_isC {T : Tb} {x : EV} {d : Nat} {b : Bool} (e : ((kindOf x h).bind fun k => isCl T k d) = some b) (q : Q (.bl b) h) : (evBi T .isinst [x, .v (.cls d)] h).Post Q E := by
  show (evIsi T x (.v (.cls d)) h).Post Q E
  unfold evIsi; simp only [e]; exact q
theorem j_join {a : Str} {y : EV} {ys : List Str} (e : (seqOf y h).bind strsOf = some ys) (hl : (ys.map (·.length)).sum + ys.length * a.length ≤ 16777216) (q : Q (.str (Txt.join a ys)) h) : (evJoin a y h).Post Q E := by
  unfold evJoin; simp only [e]; rw [if_pos hl]; exact q
end
end MP
set_option Elab.async false
set_option linter.all false
set_option autoImplicit false
set_option maxRecDepth 100000
set_option maxHeartbeats 2000000
/-! MR, part b: kinds of things; texts. -/
namespace MP
open PySem PySem.Spec L2
theorem imp_tt {X : Prop} (x : X) : true = true → X := fun _ => x
theorem imp_ff {X : Prop} (x : X) : false = false → X := fun _ => x
theorem imp_tf {X : Prop} : true = false → X := fun z => Bool.noConfusion z
theorem imp_ft {X : Prop} : false = true → X := fun z => Bool.noConfusion z
/-- things whose kind is known, whatever the heap -/
def dk : MV → Bool
  | .non => true | .bl _ => true | .int _ => true | .str _ => true | .tup _ => true | .lst _ => true | .dct _ _ => true
  | _ => false
def kTup : MV → Bool
  | .tup _ => true | _ => false
def kStr : MV → Bool
  | .str _ => true | _ => false
def kBl : MV → Bool
  | .bl _ => true | _ => false
def kIn : MV → Bool
  | .bl _ => true | .int _ => true | _ => false
def kLs : MV → Bool
  | .lst _ => true | _ => false
theorem kTup_inv {v : MV} (h : kTup v = true) : ∃ xs, v = .tup xs := by cases v <;> first | exact ⟨_, rfl⟩ | cases h
theorem kStr_inv {v : MV} (h : kStr v = true) : ∃ xs, v = .str xs := by cases v <;> first | exact ⟨_, rfl⟩ | cases h
theorem kTup_inv' {v : MV} (h : (!kTup v) = false) : ∃ xs, v = .tup xs := kTup_inv (by simpa using h)
theorem kStr_inv' {v : MV} (h : (!kStr v) = false) : ∃ xs, v = .str xs := kStr_inv (by simpa using h)
section
variable {T : Tb} {v : MV} {h : MH} {Q : MV → MH → Prop} {E : Nat → MH → Prop}
theorem isi_tup (d : dk v = true) (q : Q (.bl (kTup v)) h) : (evBi T .isinst [.v v, .v (.ty "tuple")] h).Post Q E := by
  refine b_isT (b := kTup v) ?_ q
  cases v <;> first | (cases d; done) | (simp [kindOf, isTy, kindTy, tyIs, kTup])
theorem isi_str (d : dk v = true) (q : Q (.bl (kStr v)) h) : (evBi T .isinst [.v v, .v (.ty "str")] h).Post Q E := by
  refine b_isT (b := kStr v) ?_ q
  cases v <;> first | (cases d; done) | (simp [kindOf, isTy, kindTy, tyIs, kStr])
theorem isi_bool (d : dk v = true) (q : Q (.bl (kBl v)) h) : (evBi T .isinst [.v v, .v (.ty "bool")] h).Post Q E := by
  refine b_isT (b := kBl v) ?_ q
  cases v <;> first | (cases d; done) | (simp [kindOf, isTy, kindTy, tyIs, kBl])
theorem isi_int (d : dk v = true) (q : Q (.bl (kIn v)) h) : (evBi T .isinst [.v v, .v (.ty "int")] h).Post Q E := by
  refine b_isT (b := kIn v) ?_ q
  cases v <;> first | (cases d; done) | (simp [kindOf, isTy, kindTy, tyIs, kIn])
theorem isi_lst (d : dk v = true) (q : Q (.bl (kLs v)) h) : (evBi T .isinst [.v v, .v (.ty "list")] h).Post Q E := by
  refine b_isT (b := kLs v) ?_ q
  cases v <;> first | (cases d; done) | (simp [kindOf, isTy, kindTy, tyIs, kLs])
end
theorem strO_inj {a b : String} : Str.ofString a = Str.ofString b ↔ a = b := by
  constructor
  · intro e
    rw [Str.ofString_eq_toList, Str.ofString_eq_toList] at e
    have e2 : (a.toList.map Char.toNat) = (b.toList.map Char.toNat) := by
      have := congrArg (fun z : Str => z.cps.toList) e
      simpa using this
    have e3 : a.toList = b.toList := by
      have inj : ∀ (l m : List Char), l.map Char.toNat = m.map Char.toNat → l = m := by
        intro l
        induction l with
        | nil => intro m h; cases m with
          | nil => rfl
          | cons _ _ => cases h
        | cons x l ih => intro m h; cases m with
          | nil => cases h
          | cons y m =>
            simp only [List.map_cons, List.cons.injEq] at h
            have hx : x = y := by
              have := congrArg Char.ofNat h.1
              simpa using this
            rw [hx, ih m h.2]
      exact inj _ _ e2
    exact String.toList_inj.mp e3
  · intro e; rw [e]
theorem strO_len (a : String) : (Str.ofString a).length = a.length := by
  rw [Str.ofString_eq_toList]
  show (List.toArray _).size = _
  rw [List.size_toArray, List.length_map]
  first | exact String.length_toList | simp [String.length]
/-- a text that stands in a program -/
def lit : Str → Prop := fun s => ∃ a : String, s = Str.ofString a
theorem char_lt (c : Char) : c.toNat < 0x110000 := by
  have := c.valid
  rcases this with h | h
  · exact Nat.lt_trans h (by decide)
  · exact h.2
theorem flatD_lit (a : String) : flatD (.str (Str.ofString a)) = true := by
  show ((Str.ofString a).cps.all fun c => decide (c < 0x110000)) = true
  rw [Str.ofString_eq_toList]
  simp
  intro c _
  exact char_lt c
/-! ### good data: what tests of kinds may be asked of, all the way down -/
mutual
def gd : MV → Bool
  | .non => true | .bl _ => true | .int _ => true | .dct _ _ => true
  | .str s => decide (s.length ≤ sizeLine) && (s.cps.all fun c => decide (c < 0x110000))
  | .tup xs => gds xs
  | .lst xs => gds xs
  | _ => false
def gds : List MV → Bool
  | [] => true
  | x :: xs => gd x && gds xs
end
theorem gds_all : ∀ xs : List MV, gds xs = true ↔ ∀ x ∈ xs, gd x = true
  | [] => by simp [gds]
  | x :: xs => by simp [gds, gds_all xs]
theorem gd_dk {v : MV} (g : gd v = true) : dk v = true := by cases v <;> first | rfl | (cases g; done)
theorem gd_lit (a : String) (l : a.length ≤ sizeLine) : gd (.str (Str.ofString a)) = true := by
  have f := flatD_lit a
  simp only [flatD] at f
  simp only [gd, f, strO_len, l, decide_true, Bool.and_self]
theorem gd_flat {s : Str} (g : gd (.str s) = true) : flatD (.str s) = true := by
  simp only [gd, Bool.and_eq_true] at g
  exact g.2
theorem gd_len {s : Str} (g : gd (.str s) = true) : s.length ≤ sizeLine := by
  simp only [gd, Bool.and_eq_true] at g
  exact of_decide_eq_true g.1
theorem qb {a b : Bool} {h : MH} {Q : MV → MH → Prop} (q : Q (.bl a) h) (e : a = b) : Q (.bl b) h := e ▸ q
/-! ### powers that the laws write -/
section
variable {h : MH} {Q : MV → MH → Prop} {E : Nat → MH → Prop}
theorem o_pow6 (q : Q (.int 1000000) h) : (ev2 .pow (.v (.int 10)) (.v (.int 6)) h).Post Q E := o_pow (by decide) q
theorem o_pow9 (q : Q (.int 1000000000) h) : (ev2 .pow (.v (.int 10)) (.v (.int 9)) h).Post Q E := o_pow (by decide) q
theorem o_pow18 (q : Q (.int 1000000000000000000) h) : (ev2 .pow (.v (.int 10)) (.v (.int 18)) h).Post Q E := o_pow (by decide) q
theorem o_pow30 (q : Q (.int 1000000000000000000000000000000) h) : (ev2 .pow (.v (.int 10)) (.v (.int 30)) h).Post Q E := o_pow (by decide) q
end
theorem x_tup0 {x : MV} {xs : List MV} {h : MH} {Q : MV → MH → Prop} {E : Nat → MH → Prop} (q : Q x h) : (evIx (.v (.tup (x :: xs))) (.v (.int 0)) h).Post Q E := by
  refine x_tup (v := x) ?_ q
  unfold atI ixN
  simp
theorem ex_zip {a b : List MV} {Q : List MV → List MV → Prop} (q : Q a b) : ∃ xs ys, MV.tup a = .tup xs ∧ (EV.v (.tup b)) = .v (.tup ys) ∧ Q xs ys := ⟨a, b, rfl, rfl, q⟩
def isOwn : Option LV → Bool
  | some (.own _) => true
  | _ => false
theorem putPl_loc {c1 c : Ct} {i : Nat} {σ : ML} {h : MH} {K : Ks} (e : isOwn σ[i]? = true) (q : setTo σ i (.own c) fun σ => K.nx σ h) : (putPl (.w c1 (.loc i)) c σ h).P K := by
  unfold putPl
  cases e1 : σ[i]? with
  | none => rw [e1] at e; cases e
  | some l =>
    rw [e1] at e
    cases l <;> first | (cases e; done) | (simp only [e1]; exact q.2)
theorem range_drop {L j : Nat} {v : MV} {r : List MV} (e : v :: r = (rangeL 0 L).drop j) : v = .int (j : Int) ∧ j < L ∧ r = (rangeL 0 L).drop (j + 1) := by
  have hj : j < L := by
    have := congrArg List.length e
    simp [rangeL] at this
    omega
  have h1 : (rangeL 0 L)[j]? = some v := by
    have : ((rangeL 0 L).drop j)[0]? = some v := by rw [← e]; rfl
    simpa using this
  refine ⟨?_, hj, by rw [← List.tail_drop, ← e]; rfl⟩
  simp [rangeL, hj] at h1
  exact h1.symm
theorem range_len (L : Nat) : (rangeL 0 L).length = L := by simp [rangeL]
theorem s_freezeL {T : Tb} {call : Nat → List MV → MH → Res MV} {W : Nat} {σ : ML} {h : MH} {K : Ks} {i : Nat} {xs : List MV} (e : σ[i]? = some (.own (.lst xs))) (q : setTo σ i (.val (.lst xs)) fun σ => K.nx σ h) : (exec T call W (.freeze i) σ h).P K :=
  s_freeze ⟨σ.set i (.val (.lst xs)), by unfold freezeM; simp only [e], q.2⟩
theorem s_freezeD {T : Tb} {call : Nat → List MV → MH → Res MV} {W : Nat} {σ : ML} {h : MH} {K : Ks} {i : Nat} {ks : List Key} {xs : List MV} (e : σ[i]? = some (.own (.dK ks xs))) (q : setTo σ i (.val (.dct ks xs)) fun σ => K.nx σ h) : (exec T call W (.freeze i) σ h).P K :=
  s_freeze ⟨σ.set i (.val (.dct ks xs)), by unfold freezeM; simp only [e], q.2⟩
theorem g_frz {T : Tb} {call : Nat → List MV → MH → Res MV} {W : Nat} {σ : ML} {h : MH} {K : Ks} {i : Nat} (x : (exec T call W (.freeze i) σ h).P K) : (exec T call W (.freeze i) σ h).P K := x
theorem mut_own {xs : List MV} {p : Pl} {h : MH} {P : Prop} (q : P) : ∃ ys, ctOf (.w (.lst xs) p) h = some (.lst ys) ∧ P := ⟨xs, rfl, q⟩
theorem app_own {xs : List MV} {y : MV} {p : Pl} {σ : ML} {h : MH} {K : Ks} (l : xs.length < sizeLine) (q : (putPl (.w (.lst xs) p) (.lst (xs ++ [y])) σ h).P K) : isO ((ctOf (.w (.lst xs) p) h).bind fun c => mutCt .append c (.v y) h) fun c => (putPl (.w (.lst xs) p) c σ h).P K :=
  ⟨_, by simp only [ctOf, Option.bind_some, mutCt, if_pos l], q⟩
/-- a statement by what holds behind it -/
theorem s_cut {T : Tb} {call : Nat → List MV → MH → Res MV} {W : Nat} {σ : ML} {h : MH} {K : Ks} {s : Sx} {ss : Sxs} (M : ML → MH → Prop) (p : (exec T call W s σ h).P { K with nx := M }) (q : ∀ σ h, M σ h → (execs T call W ss σ h).P K) : (execs T call W (.cons s ss) σ h).P K :=
  s_cons (P_imp p q (fun _ _ z => z) (fun _ _ z => z) (fun _ _ z => z) fun _ _ _ z => z)
/-! ### guards: the goal's form and no more -/
section
variable {T : Tb} {call : Nat → List MV → MH → Res MV} {σ : ML} {h : MH} {E : Nat → MH → Prop}
theorem g_var {i : Nat} {Q : EV → MH → Prop} (x : (den T call (.var i) σ h).Post Q E) : (den T call (.var i) σ h).Post Q E := x
theorem g_isO {α : Type} {o : Option α} {Q : α → Prop} (x : isO o Q) : isO o Q := x
theorem g_cnd {A B : Prop} (x : cnd A B) : cnd A B := x
theorem g_ixt {xs : List MV} {i : Int} {Q : MV → MH → Prop} (x : (evIx (.v (.tup xs)) (.v (.int i)) h).Post Q E) : (evIx (.v (.tup xs)) (.v (.int i)) h).Post Q E := x
theorem g_ix {e : EV} {i : Int} {Q : MV → MH → Prop} (x : (evIx e (.v (.int i)) h).Post Q E) : (evIx e (.v (.int i)) h).Post Q E := x
theorem g_len {e : EV} {Q : MV → MH → Prop} (x : (evBi T .len [e] h).Post Q E) : (evBi T .len [e] h).Post Q E := x
theorem g_btup {e : EV} {Q : MV → MH → Prop} (x : (evBi T .tuple [e] h).Post Q E) : (evBi T .tuple [e] h).Post Q E := x
theorem g_bord {e : EV} {Q : MV → MH → Prop} (x : (evBi T .ord [e] h).Post Q E) : (evBi T .ord [e] h).Post Q E := x
end
/-! ### lists that are cells -/
theorem seq_ref {h : MH} {n : Nat} {xs : List MV} (e : h[n]? = some (.ct (.lst xs))) : seqOf (.v (.ref n)) h = some xs := by simp [seqOf, e]
theorem x_cell {h : MH} {n : Nat} {xs : List MV} {i : Int} {Q : MV → MH → Prop} {E : Nat → MH → Prop} (e : h[n]? = some (.ct (.lst xs))) (q : isO (atI xs i) fun v => Q v h) : (evIx (.v (.ref n)) (.v (.int i)) h).Post Q E := by
  obtain ⟨v, e2, q⟩ := q
  exact x_seq (seq_ref e) e2 q
theorem get_set {h : MH} {n : Nat} {c d : Cell} (e : h[n]? = some c) : (h.set n d)[n]? = some d := List.getElem?_set_self (List.getElem?_eq_some_iff.mp e).1
theorem st_ref {σ : ML} {h : MH} {K : Ks} {n : Nat} {xs : List MV} {i : Int} {v : MV} (e : h[n]? = some (.ct (.lst xs))) (q : isO (ixN xs.length i) fun j => K.nx σ (h.set n (.ct (.lst (xs.set j v))))) :
    isO ((ctOf (.v (.ref n)) h).bind fun c => setCt c (.int i) v) fun c => (putPl (.v (.ref n)) c σ h).P K := by
  obtain ⟨j, ei, q⟩ := q
  refine ⟨.lst (xs.set j v), by simp [ctOf, e, setCt, ei], ?_⟩
  unfold putPl
  simp only [e]
  exact q
/-! ### the laws' drawn numbers: a cell of two -/
def St (h : MH) (n : Nat) : Prop := ∃ d s, h[n]? = some (.ct (.lst [.int d, .int s]))
/-- all but the drawing cell is as it was -/
structure Ch (n : Nat) (h h' : MH) : Prop where
  st : St h' n
  len : h'.length = h.length
  oth : ∀ m, m ≠ n → h'[m]? = h[m]?
theorem Ch.start {n : Nat} {h : MH} (s : St h n) : Ch n h h := ⟨s, rfl, fun _ _ => rfl⟩
theorem Ch.set {n : Nat} {h0 h : MH} (c : Ch n h0 h) (d s : Int) : Ch n h0 (h.set n (.ct (.lst [.int d, .int s]))) := by
  obtain ⟨d0, s0, e⟩ := c.st
  have hn : n < h.length := (List.getElem?_eq_some_iff.mp e).1
  refine ⟨⟨d, s, by rw [List.getElem?_set_self hn]⟩, by rw [List.length_set]; exact c.len, fun m hm => ?_⟩
  rw [List.getElem?_set_ne (fun z => hm z.symm)]
  exact c.oth m hm
theorem Ch.trans {n : Nat} {h h' h'' : MH} (a : Ch n h h') (b : Ch n h' h'') : Ch n h h'' := ⟨b.st, b.len.trans a.len, fun m hm => (b.oth m hm).trans (a.oth m hm)⟩
end MP
set_option Elab.async false
set_option linter.all false
set_option autoImplicit false
set_option maxRecDepth 100000
set_option maxHeartbeats 2000000
/-! MS: texts: parts, bounds. -/
namespace MP
open PySem PySem.Spec L2 TL
/-- a text of real signs, not longer than n -/
def gs (n : Nat) (s : Str) : Prop := s.length ≤ n ∧ ∀ c ∈ tl s, c < 0x110000
theorem gd_gs {s : Str} : gd (.str s) = true ↔ gs sizeLine s := by
  unfold gd gs
  rw [Bool.and_eq_true, decide_eq_true_eq, Array.all_eq_true_iff_forall_mem]
  simp only [decide_eq_true_eq]
  refine and_congr_right fun _ => ⟨fun h c hc => h c (Array.mem_toList_iff.mp hc), fun h c hc => h c (Array.mem_toList_iff.mpr hc)⟩
theorem gs_mono {m n : Nat} {s : Str} (g : gs m s) (h : m ≤ n) : gs n s := ⟨Nat.le_trans g.1 h, g.2⟩
theorem gs_gd {n : Nat} {s : Str} (g : gs n s) (h : n ≤ sizeLine) : gd (.str s) = true := gd_gs.mpr (gs_mono g h)
theorem gs_app {m n : Nat} {s t : Str} (g : gs m s) (h : gs n t) : gs (m + n) (s ++ t) := by
  refine ⟨?_, fun c hc => ?_⟩
  · rw [len_tl, tl_append, List.length_append, ← len_tl, ← len_tl]
    exact Nat.add_le_add g.1 h.1
  · rw [tl_append] at hc
    rcases List.mem_append.mp hc with z | z
    · exact g.2 c z
    · exact h.2 c z
theorem tl_cut (s : Str) (i j : Option Int) : tl (cutS s i j) = ((tl s).drop (HT.sIx s.length 0 i)).take (HT.sIx s.length s.length j - HT.sIx s.length 0 i) := rfl
theorem gs_cut {n : Nat} {s : Str} (g : gs n s) (i j : Option Int) : gs n (cutS s i j) := by
  refine ⟨?_, fun c hc => g.2 c ?_⟩
  · rw [len_tl, tl_cut]
    have : ((tl s).drop (HT.sIx s.length 0 i)).length ≤ (tl s).length := by simp
    have h2 := g.1
    rw [len_tl] at h2
    rw [List.length_take]
    omega
  · rw [tl_cut] at hc
    exact List.mem_of_mem_drop (List.mem_of_mem_take hc)
theorem gs_one {c : Nat} (h : c < 0x110000) : gs 1 ⟨#[c]⟩ := ⟨Nat.le_refl _, fun d hd => by
  have : d ∈ [c] := hd
  simp at this; subst this; exact h⟩
theorem gs_at {n : Nat} {s : Str} {i : Int} {c : Nat} (g : gs n s) (e : atI s.cps.toList i = some c) : gs 1 ⟨#[c]⟩ := gs_one (g.2 c (by
  unfold atI at e
  cases ej : ixN s.cps.toList.length i with
  | none => rw [ej] at e; cases e
  | some j => rw [ej] at e; exact List.mem_of_getElem? e))
theorem gs_lit (a : String) {n : Nat} (h : a.length ≤ n) : gs n (Str.ofString a) := by
  refine ⟨by rw [strO_len]; exact h, fun c hc => ?_⟩
  rw [tl_ofString] at hc
  obtain ⟨x, _, rfl⟩ := List.mem_map.mp hc
  exact char_lt x
theorem foldl_app : ∀ (l : List (Array Nat)) (a : Array Nat), (l.foldl (· ++ ·) a).toList = a.toList ++ l.flatMap Array.toList
  | [], a => by simp
  | x :: l, a => by rw [List.foldl_cons, foldl_app l]; simp
theorem tl_rep (z : Str) (n : Int) : tl (repS z n) = (List.replicate n.toNat (tl z)).flatten := by
  show (List.foldl (· ++ ·) #[] (List.replicate n.toNat z.cps)).toList = _
  rw [foldl_app]
  generalize n.toNat = k
  induction k with
  | zero => rfl
  | succ k ih => 
    rw [List.replicate_succ, List.replicate_succ, List.flatMap_cons, List.flatten_cons]
    simp only [Array.toList_empty, List.nil_append] at ih ⊢
    rw [ih]
theorem len_rep (z : Str) (n : Int) : (repS z n).length = n.toNat * z.length := by
  have h : ∀ (k a : Nat), (List.replicate k a).sum = k * a := fun k a => by
    induction k with
    | zero => simp
    | succ k ih => rw [List.replicate_succ, List.sum_cons, ih, Nat.succ_mul, Nat.add_comm]
  rw [len_tl, tl_rep, List.length_flatten, List.map_replicate, h, len_tl]
theorem gs_rep {m : Nat} {s : Str} {n : Int} (g : gs m s) : gs (n.toNat * m) (repS s n) := by
  refine ⟨by rw [len_rep]; exact Nat.mul_le_mul_left _ g.1, fun c hc => ?_⟩
  rw [tl_rep] at hc
  obtain ⟨l, hl, hc⟩ := List.mem_flatten.mp hc
  rw [(List.mem_replicate.mp hl).2] at hc
  exact g.2 c hc
theorem rep_ok {s : Str} {n : Int} (h1 : 2 ≤ n) (h2 : n < 4096) (h3 : 1 ≤ s.length) (h4 : s.length < 4096) : repOk s n = true := by
  unfold repOk
  simp only [Bool.and_eq_true, decide_eq_true_eq]
  refine ⟨h2, h1, h4, h3, ?_⟩
  rw [len_rep]
  have : n.toNat * s.length ≤ 4096 * 4096 := Nat.mul_le_mul (by omega) (by omega)
  have : sizeLine = 16777216 := rfl
  omega
theorem atI_0 {α : Type} {a : α} {r : List α} : atI (a :: r) 0 = some a := by
  unfold atI ixN
  rw [if_pos (by decide), if_pos (by simp only [List.length_cons]; omega)]
  rfl
theorem atI_1 {α : Type} {a b : α} {r : List α} : atI (a :: b :: r) 1 = some b := by
  unfold atI ixN
  rw [if_pos (by decide), if_pos (by simp only [List.length_cons]; omega)]
  rfl
theorem cut2 {α : Type} {a b : α} {r : List α} : cutM (a :: b :: r) (some 2) none = r := by
  have h : HT.sIx (a :: b :: r).length 0 (some 2) = 2 := by
    show (if (2 : Int) < 0 then ((2 : Int) + ((a :: b :: r).length : Int)).toNat else min (2 : Int).toNat (a :: b :: r).length) = 2
    rw [if_neg (by decide)]
    simp only [List.length_cons]
    show min 2 (r.length + 1 + 1) = 2
    omega
  unfold cutM
  rw [h]
  show ((a :: b :: r).drop 2).take ((a :: b :: r).length - 2) = r
  simp
/-! ### parts -/
theorem pre1 (s c : Nat) (r : List Nat) : pre [s] (c :: r) = (c == s) := by
  unfold pre
  simp [List.take]
theorem spl1_free (s : Nat) : ∀ (l acc : List Nat), s ∉ acc → ∀ p ∈ spl [s] 0 acc l, s ∉ p
  | [], acc, ha, p, hp => by
    rw [spl_nil] at hp
    simp at hp; subst hp; exact ha
  | c :: r, acc, ha, p, hp => by
    by_cases e : c = s
    · subst e
      rw [spl_hit (by rw [pre1]; simp)] at hp
      rcases List.mem_cons.mp hp with z | z
      · rw [z]; exact ha
      · exact spl1_free c r [] (by simp) p z
    · rw [spl_miss (by rw [pre1]; simpa using e)] at hp
      exact spl1_free s r (acc ++ [c]) (by simp [ha]; exact fun z => e z.symm) p hp
theorem spl1_ne (s : Nat) : ∀ (l acc : List Nat), spl [s] 0 acc l ≠ []
  | [], acc => by rw [spl_nil]; simp
  | c :: r, acc => by
    by_cases e : c = s
    · subst e; rw [spl_hit (by rw [pre1]; simp)]; simp
    · rw [spl_miss (by rw [pre1]; simpa using e)]; exact spl1_ne s r _
theorem spl1_mem (s : Nat) : ∀ (l acc : List Nat) (p : List Nat), p ∈ spl [s] 0 acc l → ∀ c ∈ p, c ∈ acc ∨ c ∈ l
  | [], acc, p, hp, c, hc => by
    rw [spl_nil] at hp
    simp at hp; subst hp; exact .inl hc
  | d :: r, acc, p, hp, c, hc => by
    by_cases e : d = s
    · subst e
      rw [spl_hit (by rw [pre1]; simp)] at hp
      rcases List.mem_cons.mp hp with z | z
      · rw [z] at hc; exact .inl hc
      · rcases spl1_mem d r [] p z c hc with y | y
        · cases y
        · exact .inr (List.mem_cons_of_mem _ y)
    · rw [spl_miss (by rw [pre1]; simpa using e)] at hp
      rcases spl1_mem s r (acc ++ [d]) p hp c hc with y | y
      · rcases List.mem_append.mp y with z | z
        · exact .inl z
        · simp at z; subst z; exact .inr List.mem_cons_self
      · exact .inr (List.mem_cons_of_mem _ y)
theorem spl1_len (s : Nat) : ∀ (l acc : List Nat) (p : List Nat), p ∈ spl [s] 0 acc l → p.length ≤ acc.length + l.length
  | [], acc, p, hp => by
    rw [spl_nil] at hp
    simp at hp; subst hp; simp
  | d :: r, acc, p, hp => by
    by_cases e : d = s
    · subst e
      rw [spl_hit (by rw [pre1]; simp)] at hp
      rcases List.mem_cons.mp hp with z | z
      · rw [z]; omega
      · have := spl1_len d r [] p z
        simp at this ⊢; omega
    · rw [spl_miss (by rw [pre1]; simpa using e)] at hp
      have := spl1_len s r (acc ++ [d]) p hp
      simp at this ⊢; omega
section
variable {y : Str} {s : Nat} (ey : tl y = [s]) (hs : s < 256)
include ey hs
theorem sep_k (x : Str) : ¬ Builtin.Str.strKind x < Builtin.Str.strKind y := kind_ok (by
  rw [Array.all_eq_true_iff_forall_mem]
  intro c hc
  have : c ∈ tl y := Array.mem_toList_iff.mpr hc
  rw [ey] at this
  simp at this; subst this; exact decide_eq_true hs)
theorem split_tl (x : Str) : (Txt.split x y).map tl = spl [s] 0 [] (tl x) := by
  have := split_spl x y (by rw [ey]; simp) (sep_k ey hs x)
  rw [this, ey]
theorem split_free (x : Str) : ∀ p ∈ Txt.split x y, s ∉ tl p := fun p hp => by
  have : tl p ∈ (Txt.split x y).map tl := List.mem_map_of_mem hp
  rw [split_tl ey hs] at this
  exact spl1_free s _ [] (by simp) _ this
theorem split_ne (x : Str) : Txt.split x y ≠ [] := fun e => by
  have := split_tl ey hs x
  rw [e] at this
  exact spl1_ne s _ _ this.symm
theorem split_mem (x : Str) : ∀ p ∈ Txt.split x y, ∀ c ∈ tl p, c ∈ tl x := fun p hp c hc => by
  have : tl p ∈ (Txt.split x y).map tl := List.mem_map_of_mem hp
  rw [split_tl ey hs] at this
  rcases spl1_mem s _ _ _ this c hc with z | z
  · cases z
  · exact z
theorem split_plen (x : Str) : ∀ p ∈ Txt.split x y, p.length ≤ x.length := fun p hp => by
  have : tl p ∈ (Txt.split x y).map tl := List.mem_map_of_mem hp
  rw [split_tl ey hs] at this
  have := spl1_len s _ _ _ this
  rw [len_tl, len_tl]
  simpa using this
theorem split_gs {n : Nat} {x : Str} (g : gs n x) : ∀ p ∈ Txt.split x y, gs n p := fun p hp => ⟨Nat.le_trans (split_plen ey hs x p hp) g.1, fun c hc => g.2 c (split_mem ey hs x p hp c hc)⟩
omit hs ey in
theorem split_back (x y : Str) : Txt.join y (Txt.split x y) = x := by rw [join_eq]; exact PySem.StrLaws.join_split x y
theorem split_len (x : Str) : (Txt.split x y).length ≤ x.length + 2 := PyProof.Rows.split_le x y
theorem split_of {parts : List Str} (hne : parts ≠ []) (hp : ∀ p ∈ parts, s ∉ tl p) : Txt.split (Txt.join y parts) y = parts :=
  split_join ey (by
    rw [Array.all_eq_true_iff_forall_mem]
    intro c hc
    have : c ∈ tl y := Array.mem_toList_iff.mpr hc
    rw [ey] at this
    simp at this; subst this; exact decide_eq_true hs) hne hp
end
end MP
set_option Elab.async false
set_option linter.all false
set_option autoImplicit false
set_option maxRecDepth 100000
set_option maxHeartbeats 2000000
/-! MT: texts: digits; sums of parts. -/
namespace MP
open PySem PySem.Spec L2 TL NumText
theorem dv_snoc (l : List Nat) (d : Nat) : digitsVal (l ++ [d]) = digitsVal l * 10 + (d - 48) := by
  unfold digitsVal; rw [List.foldl_append]; rfl
theorem list_snoc {α : Type} {P : List α → Prop} (h0 : P []) (h1 : ∀ l x, P l → P (l ++ [x])) (l : List α) : P l := by
  have : ∀ n, ∀ l : List α, l.length = n → P l := by
    intro n
    induction n with
    | zero => intro l e; rw [List.length_eq_zero_iff.mp e]; exact h0
    | succ n ih =>
      intro l e
      have hne : l ≠ [] := fun z => by rw [z] at e; cases e
      have e2 := List.dropLast_concat_getLast hne
      rw [← e2]
      exact h1 _ _ (ih _ (by rw [List.length_dropLast, e]; rfl))
  exact this _ l rfl
theorem dv_pos (l : List Nat) : AllDigits l → l ≠ [] → l.head? ≠ some 48 → 1 ≤ digitsVal l := by
  refine list_snoc (P := fun l => AllDigits l → l ≠ [] → l.head? ≠ some 48 → 1 ≤ digitsVal l) (fun _ h _ => absurd rfl h) (fun l d ih hd _ hh => ?_) l
  rw [dv_snoc]
  cases l with
  | nil =>
    have := hd d (by simp)
    have : d ≠ 48 := fun z => hh (by rw [z]; rfl)
    simp [digitsVal]; omega
  | cons c l =>
    have := ih (fun x hx => hd x (List.mem_append_left _ hx)) (by simp) (by simpa using hh)
    omega
theorem num_back (l : List Nat) : AllDigits l → l ≠ [] → (l = [48] ∨ l.head? ≠ some 48) → numL (digitsVal l) = l := by
  refine list_snoc (P := fun l => AllDigits l → l ≠ [] → (l = [48] ∨ l.head? ≠ some 48) → numL (digitsVal l) = l) (fun _ h _ => absurd rfl h) (fun l d ih hd _ hh => ?_) l
  have hdd := hd d (by simp)
  rw [dv_snoc]
  cases l with
  | nil =>
    simp only [digitsVal, List.foldl_nil, List.nil_append]
    rw [numL_lt (by omega)]
    congr 1; omega
  | cons c l =>
    have hh : (c :: l).head? ≠ some 48 := by
      rcases hh with z | z
      · simp at z
      · simpa using z
    have hd' : AllDigits (c :: l) := fun x hx => hd x (List.mem_append_left _ hx)
    have hp := dv_pos (c :: l) hd' (by simp) hh
    have e := ih hd' (by simp) (.inr hh)
    rw [numL_step (by omega)]
    have e1 : (digitsVal (c :: l) * 10 + (d - 48)) / 10 = digitsVal (c :: l) := by omega
    have e2 : (digitsVal (c :: l) * 10 + (d - 48)) % 10 = d - 48 := by omega
    rw [e1, e2, e]
    congr 2; omega
theorem num_head (n : Nat) : 1 ≤ n → (numL n).head? ≠ some 48 := by
  induction n using Nat.strongRecOn with
  | _ n ih =>
    intro h1
    by_cases h : n < 10
    · rw [numL_lt h]
      simp; omega
    · rw [numL_step (by omega)]
      have := ih (n / 10) (by omega) (by omega)
      have hne := numL_ne (n / 10)
      cases e : numL (n / 10) with
      | nil => exact absurd e hne
      | cons a b => rw [e] at this; simpa using this
theorem dv_lt (l : List Nat) : AllDigits l → digitsVal l < 10 ^ l.length := by
  refine list_snoc (P := fun l => AllDigits l → digitsVal l < 10 ^ l.length) (fun _ => by decide) (fun l d ih hd => ?_) l
  have := ih fun x hx => hd x (List.mem_append_left _ hx)
  have hdd := hd d (by simp)
  rw [dv_snoc, List.length_append, List.length_singleton, Nat.pow_succ]
  omega
theorem dv_num_len {n k : Nat} (h : n < 10 ^ k) (hk : 0 < k) : (Str.ofString (toString ((n : Nat) : Int))).length ≤ k := by
  rw [len_tl, tl_num]; exact numL_len hk h
theorem gs_num (n : Nat) {k : Nat} (h : n < 10 ^ k) (hk : 0 < k) : gs k (Str.ofString (toString ((n : Nat) : Int))) := ⟨dv_num_len h hk, fun c hc => by
  rw [tl_num] at hc
  have := numL_digits n c hc
  omega⟩
theorem spl1_sum (s : Nat) : ∀ (l acc : List Nat), ((spl [s] 0 acc l).map List.length).sum + (spl [s] 0 acc l).length = acc.length + l.length + 1
  | [], acc => by rw [spl_nil]; simp
  | d :: r, acc => by
    by_cases e : d = s
    · subst e
      rw [spl_hit (by rw [pre1]; simp)]
      have := spl1_sum d r []
      simp at this ⊢; omega
    · rw [spl_miss (by rw [pre1]; simpa using e)]
      have := spl1_sum s r (acc ++ [d])
      simp at this ⊢; omega
theorem split_sum {y : Str} {s : Nat} (ey : tl y = [s]) (hs : s < 256) (x : Str) : ((Txt.split x y).map Str.length).sum + (Txt.split x y).length = x.length + 1 := by
  have e := split_tl ey hs x
  have h := spl1_sum s (tl x) []
  rw [← e] at h
  rw [List.map_map, List.length_map] at h
  have e2 : (List.length ∘ tl) = Str.length := by funext z; exact (len_tl z).symm
  rw [e2] at h
  rw [len_tl x]
  simpa using h
theorem tl_joinc (y : Str) (a b : Str) (r : List Str) : tl (Txt.join y (a :: b :: r)) = tl a ++ (tl y ++ tl (Txt.join y (b :: r))) := by
  rw [join_eq, join_eq, tl_join, tl_join]
  simp [joinL]
theorem join_mem {y : Str} : ∀ (ps : List Str) (c : Nat), c ∈ tl (Txt.join y ps) → c ∈ tl y ∨ ∃ p ∈ ps, c ∈ tl p
  | [], c, h => by rw [join_eq] at h; exact absurd h (by show c ∉ ([] : List Nat); simp)
  | [a], c, h => by
    have e : Txt.join y [a] = a := by rw [join_eq]; rfl
    rw [e] at h; exact .inr ⟨a, by simp, h⟩
  | a :: b :: r, c, h => by
    rw [tl_joinc] at h
    rcases List.mem_append.mp h with z | z
    · exact .inr ⟨a, by simp, z⟩
    · rcases List.mem_append.mp z with z | z
      · exact .inl z
      · rcases join_mem (b :: r) c z with w | ⟨p, hp, w⟩
        · exact .inl w
        · exact .inr ⟨p, by simp at hp ⊢; exact .inr hp, w⟩
theorem join_one (y a : Str) : Txt.join y [a] = a := by rw [join_eq]; rfl
/-- the last part may be joined first -/
theorem join_tail {y : Str} : ∀ (a : Str) (l r : List Str), r ≠ [] → Txt.join y (a :: l ++ [Txt.join y r]) = Txt.join y (a :: l ++ r)
  | a, [], r, hr => by
    refine ext_tl ?_
    cases r with
    | nil => exact absurd rfl hr
    | cons b r =>
      show tl (Txt.join y [a, Txt.join y (b :: r)]) = tl (Txt.join y (a :: b :: r))
      rw [tl_joinc, tl_joinc, join_one]
  | a, b :: l, r, hr => by
    refine ext_tl ?_
    have ih := join_tail (y := y) b l r hr
    show tl (Txt.join y (a :: b :: (l ++ [Txt.join y r]))) = tl (Txt.join y (a :: b :: (l ++ r)))
    rw [tl_joinc, tl_joinc]
    congr 2
    exact congrArg tl ih
end MP
set_option Elab.async false
set_option linter.all false
set_option autoImplicit false
set_option maxRecDepth 100000
set_option maxHeartbeats 2000000
/-! MU: tuples and lists of flat things, compared. -/
namespace MP
open PySem PySem.Spec L2 TL NumText
def dat : MV → PyData
  | .bl b => .bool b
  | .int i => .int i
  | .str s => .str s
  | _ => .none
def flatEqs : List MV → List MV → Bool
  | [], [] => true
  | x :: xs, y :: ys => flatEq x y && flatEqs xs ys
  | _, _ => false
section
variable {h : MH} {Q : MV → MH → Prop} {E : Nat → MH → Prop}
theorem dat_of {x : MV} (f : flatD x = true) : dataOf h x = some (dat x) := by cases x <;> first | (cases f; done) | simp [dataOf, dat]
theorem dat_lay {x : MV} (f : flatD x = true) : (dat x).canLay0 = true ∧ (dat x).depth ≤ 1 := by
  cases x <;> first | (cases f; done) | (simp [dat, PyData.canLay0, PyData.depth]; done) | skip
  rename_i s
  have e : PyData.canLay0 (.str s) = true := by rw [PyData.canLay0]; exact f
  exact ⟨e, by simp [dat, PyData.depth]⟩
theorem dats_of : ∀ {xs : List MV}, xs.all flatD = true → datasOf h xs = some (xs.map dat) ∧ PyData.canLayAll0 (xs.map dat) = true ∧ PyData.depthAll (xs.map dat) ≤ 1
  | [], _ => by simp [datasOf, PyData.canLayAll0, PyData.depthAll]
  | x :: xs, f => by
    simp only [List.all_cons, Bool.and_eq_true] at f
    obtain ⟨a, b, c⟩ := dats_of (xs := xs) f.2
    obtain ⟨d, e⟩ := dat_lay f.1
    simp only [datasOf, dat_of f.1, a, List.map_cons, PyData.canLayAll0, PyData.depthAll, d, b, Option.bind_some, Option.map_some, Bool.and_self, true_and]
    omega
theorem eq_dat {x y : MV} (f : flatD x = true) (g : flatD y = true) : PyData.eqv (dat x) (dat y) = flatEq x y := by
  cases x <;> first | (cases f; done) | skip
  all_goals cases y <;> first | (cases g; done) | simp [dat, PyData.eqv, flatEq]
theorem eq_dats : ∀ {xs ys : List MV}, xs.all flatD = true → ys.all flatD = true → PyData.eqvAll (xs.map dat) (ys.map dat) = flatEqs xs ys
  | [], [], _, _ => by simp [PyData.eqvAll, flatEqs]
  | [], _ :: _, _, _ => by simp [PyData.eqvAll, flatEqs]
  | _ :: _, [], _, _ => by simp [PyData.eqvAll, flatEqs]
  | x :: xs, y :: ys, f, g => by
    simp only [List.all_cons, Bool.and_eq_true] at f g
    simp only [List.map_cons, PyData.eqvAll, flatEqs, eq_dat f.1 g.1, eq_dats f.2 g.2]
theorem o_eqD {x y : EV} {d e : PyData} (ex : dataE x h = some d) (ey : dataE y h = some e) (sx : shapedB d = true) (sy : shapedB e = true) (q : Q (.bl (PyData.eqv d e)) h) : (ev2 .eq x y h).Post Q E := by
  unfold ev2
  simp only [ex, ey, sx, sy, Bool.and_self, if_true]
  exact q
theorem shp_of {d : PyData} (c : d.canLay0 = true) (l : d.depth ≤ 64) : shapedB d = true := by
  show (PyData.canLay0 d && decide (PyData.depth d ≤ 64)) = true
  rw [c]; simp [l]
theorem o_eqT {xs ys : List MV} (f : xs.all flatD = true) (g : ys.all flatD = true) (q : Q (.bl (flatEqs xs ys)) h) : (ev2 .eq (.v (.tup xs)) (.v (.tup ys)) h).Post Q E := by
  obtain ⟨a, b, c⟩ := dats_of (h := h) f
  obtain ⟨a', b', c'⟩ := dats_of (h := h) g
  refine o_eqD (d := .tuple (xs.map dat)) (e := .tuple (ys.map dat)) (by show dataOf h _ = _; simp only [dataOf, a]; rfl) (by show dataOf h _ = _; simp only [dataOf, a']; rfl) (shp_of (by simpa [PyData.canLay0] using b) (by simp only [PyData.depth]; omega)) (shp_of (by simpa [PyData.canLay0] using b') (by simp only [PyData.depth]; omega)) ?_
  simp only [PyData.eqv, eq_dats f g]
  exact q
theorem o_eqL1 {xs : List MV} (f : xs.all flatD = true) (q : Q (.bl false) h) : (ev2 .eq (.v (.lst [.tup xs])) (.v (.lst [])) h).Post Q E := by
  obtain ⟨a, b, c⟩ := dats_of (h := h) f
  refine o_eqD (d := .list [.tuple (xs.map dat)]) (e := .list []) (by show dataOf h _ = _; simp only [dataOf, datasOf, a]; rfl) (by show dataOf h _ = _; simp only [dataOf, datasOf]; rfl) (shp_of (by simpa [PyData.canLay0, PyData.canLayAll0] using b) (by simp only [PyData.depth, PyData.depthAll]; omega)) (shp_of (by simp [PyData.canLay0, PyData.canLayAll0]) (by simp [PyData.depth, PyData.depthAll])) ?_
  simp only [PyData.eqv, PyData.eqvAll]
  exact q
theorem o_eqL0 (q : Q (.bl true) h) : (ev2 .eq (.v (.lst [])) (.v (.lst [])) h).Post Q E := by
  refine o_eqD (d := .list []) (e := .list []) (by show dataOf h _ = _; simp only [dataOf, datasOf]; rfl) (by show dataOf h _ = _; simp only [dataOf, datasOf]; rfl) (shp_of (by simp [PyData.canLay0, PyData.canLayAll0]) (by simp [PyData.depth, PyData.depthAll])) (shp_of (by simp [PyData.canLay0, PyData.canLayAll0]) (by simp [PyData.depth, PyData.depthAll])) ?_
  simp only [PyData.eqv, PyData.eqvAll]
  exact q
theorem strsOf_map : ∀ l : List Str, strsOf (l.map MV.str) = some l
  | [] => rfl
  | x :: l => by simp only [List.map_cons, strsOf, strsOf_map l]; rfl
end
/-- an if by what holds behind it -/
theorem s_cutI {T : Tb} {call : Nat → List MV → MH → Res MV} {W : Nat} {σ : ML} {h : MH} {K : Ks} {c : Ex} {t e : Sxs} {ss : Sxs} (M : ML → MH → Prop) (p : (exec T call W (.ite c t e) σ h).P { K with nx := M }) (q : ∀ σ h, M σ h → (execs T call W ss σ h).P K) : (execs T call W (.cons (.ite c t e) ss) σ h).P K := s_cut M p q
theorem st_own {σ : ML} {h : MH} {K : Ks} {p : Pl} {xs : List MV} {i : Int} {v : MV} (q : isO (ixN xs.length i) fun j => (putPl (.w (.lst xs) p) (.lst (xs.set j v)) σ h).P K) :
    isO ((ctOf (.w (.lst xs) p) h).bind fun c => setCt c (.int i) v) fun c => (putPl (.w (.lst xs) p) c σ h).P K := by
  obtain ⟨j, ei, q⟩ := q
  exact ⟨.lst (xs.set j v), by simp [ctOf, setCt, ei], q⟩
end MP
set_option Elab.async false
set_option linter.all false
set_option autoImplicit false
set_option maxRecDepth 100000
set_option maxHeartbeats 2000000
/-! MU2: pure data at any depth, compared. -/
namespace MP
open PySem PySem.Spec L2 TL NumText
mutual
/-- pure data: what == looks through -/
def pd : MV → Bool
  | .non => true | .bl _ => true | .int _ => true
  | .str s => s.cps.all fun c => decide (c < 0x110000)
  | .tup xs => pds xs
  | .lst xs => pds xs
  | _ => false
def pds : List MV → Bool
  | [] => true
  | x :: xs => pd x && pds xs
end
mutual
def dep : MV → Nat
  | .tup xs => deps xs + 1
  | .lst xs => deps xs + 1
  | _ => 1
def deps : List MV → Nat
  | [] => 0
  | x :: xs => max (dep x) (deps xs)
end
mutual
def datM : MV → PyData
  | .bl b => .bool b
  | .int i => .int i
  | .str s => .str s
  | .tup xs => .tuple (datMs xs)
  | .lst xs => .list (datMs xs)
  | _ => .none
def datMs : List MV → List PyData
  | [] => []
  | x :: xs => datM x :: datMs xs
end
mutual
/-- x == y -/
def eqM : MV → MV → Bool
  | .tup xs, .tup ys => eqMs xs ys
  | .lst xs, .lst ys => eqMs xs ys
  | x, y => flatEq x y
def eqMs : List MV → List MV → Bool
  | [], [] => true
  | x :: xs, y :: ys => eqM x y && eqMs xs ys
  | _, _ => false
end
theorem pds_all : ∀ xs : List MV, pds xs = true ↔ ∀ x ∈ xs, pd x = true
  | [] => by simp [pds]
  | x :: xs => by simp [pds, pds_all xs]
section
variable {h : MH} {Q : MV → MH → Prop} {E : Nat → MH → Prop}
mutual
theorem datM_of : ∀ {x : MV}, pd x = true → dataOf h x = some (datM x) ∧ (datM x).canLay0 = true ∧ (datM x).depth ≤ dep x
  | .non, _ => ⟨by simp [dataOf, datM], by simp [datM, PyData.canLay0], by simp [datM, PyData.depth]⟩
  | .bl _, _ => ⟨by simp [dataOf, datM], by simp [datM, PyData.canLay0], by simp [datM, PyData.depth]⟩
  | .int _, _ => ⟨by simp [dataOf, datM], by simp [datM, PyData.canLay0], by simp [datM, PyData.depth]⟩
  | .str s, f => ⟨by simp [dataOf, datM], by rw [pd] at f; rw [datM, PyData.canLay0]; exact f, by simp [datM, PyData.depth]⟩
  | .tup xs, f => by
    obtain ⟨a, b, c⟩ := datMs_of (xs := xs) (by simpa [pd] using f)
    exact ⟨by simp [dataOf, datM, a], by rw [datM, PyData.canLay0]; exact b, by rw [datM, PyData.depth, dep]; omega⟩
  | .lst xs, f => by
    obtain ⟨a, b, c⟩ := datMs_of (xs := xs) (by simpa [pd] using f)
    exact ⟨by simp [dataOf, datM, a], by rw [datM, PyData.canLay0]; exact b, by rw [datM, PyData.depth, dep]; omega⟩
  | .dct _ _, f => by simp [pd] at f
  | .ins _ _ _, f => by simp [pd] at f
  | .ref _, f => by simp [pd] at f
  | .fn _, f => by simp [pd] at f
  | .cls _, f => by simp [pd] at f
  | .ty _, f => by simp [pd] at f
  | .kl _, f => by simp [pd] at f
theorem datMs_of : ∀ {xs : List MV}, pds xs = true → datasOf h xs = some (datMs xs) ∧ PyData.canLayAll0 (datMs xs) = true ∧ PyData.depthAll (datMs xs) ≤ deps xs
  | [], _ => ⟨by simp [datasOf, datMs], by simp [datMs, PyData.canLayAll0], by simp [datMs, PyData.depthAll]⟩
  | x :: xs, f => by
    simp only [pds, Bool.and_eq_true] at f
    obtain ⟨a, b, c⟩ := datM_of (x := x) f.1
    obtain ⟨d, e, g⟩ := datMs_of (xs := xs) f.2
    refine ⟨by simp [datasOf, datMs, a, d], by simp [datMs, PyData.canLayAll0, b, e], ?_⟩
    rw [datMs, PyData.depthAll, deps]
    omega
end
mutual
theorem eqM_dat : ∀ {x y : MV}, pd x = true → pd y = true → PyData.eqv (datM x) (datM y) = eqM x y
  | .tup xs, .tup ys, f, g => by rw [datM, datM, PyData.eqv, eqM]; exact eqMs_dat (by simpa [pd] using f) (by simpa [pd] using g)
  | .lst xs, .lst ys, f, g => by rw [datM, datM, PyData.eqv, eqM]; exact eqMs_dat (by simpa [pd] using f) (by simpa [pd] using g)
  | .non, y, f, g => by cases y <;> first | (simp [pd] at g; done) | simp [datM, PyData.eqv, eqM, flatEq]
  | .bl _, y, f, g => by cases y <;> first | (simp [pd] at g; done) | simp [datM, PyData.eqv, eqM, flatEq]
  | .int _, y, f, g => by cases y <;> first | (simp [pd] at g; done) | simp [datM, PyData.eqv, eqM, flatEq]
  | .str _, y, f, g => by cases y <;> first | (simp [pd] at g; done) | simp [datM, PyData.eqv, eqM, flatEq]
  | .tup _, .non, f, g => by simp [datM, PyData.eqv, eqM, flatEq]
  | .tup _, .bl _, f, g => by simp [datM, PyData.eqv, eqM, flatEq]
  | .tup _, .int _, f, g => by simp [datM, PyData.eqv, eqM, flatEq]
  | .tup _, .str _, f, g => by simp [datM, PyData.eqv, eqM, flatEq]
  | .tup _, .lst _, f, g => by simp [datM, PyData.eqv, eqM, flatEq]
  | .lst _, .non, f, g => by simp [datM, PyData.eqv, eqM, flatEq]
  | .lst _, .bl _, f, g => by simp [datM, PyData.eqv, eqM, flatEq]
  | .lst _, .int _, f, g => by simp [datM, PyData.eqv, eqM, flatEq]
  | .lst _, .str _, f, g => by simp [datM, PyData.eqv, eqM, flatEq]
  | .lst _, .tup _, f, g => by simp [datM, PyData.eqv, eqM, flatEq]
  | .tup _, .dct _ _, f, g => by simp [pd] at g
  | .tup _, .ins _ _ _, f, g => by simp [pd] at g
  | .tup _, .ref _, f, g => by simp [pd] at g
  | .tup _, .fn _, f, g => by simp [pd] at g
  | .tup _, .cls _, f, g => by simp [pd] at g
  | .tup _, .ty _, f, g => by simp [pd] at g
  | .tup _, .kl _, f, g => by simp [pd] at g
  | .lst _, .dct _ _, f, g => by simp [pd] at g
  | .lst _, .ins _ _ _, f, g => by simp [pd] at g
  | .lst _, .ref _, f, g => by simp [pd] at g
  | .lst _, .fn _, f, g => by simp [pd] at g
  | .lst _, .cls _, f, g => by simp [pd] at g
  | .lst _, .ty _, f, g => by simp [pd] at g
  | .lst _, .kl _, f, g => by simp [pd] at g
  | .dct _ _, _, f, g => by simp [pd] at f
  | .ins _ _ _, _, f, g => by simp [pd] at f
  | .ref _, _, f, g => by simp [pd] at f
  | .fn _, _, f, g => by simp [pd] at f
  | .cls _, _, f, g => by simp [pd] at f
  | .ty _, _, f, g => by simp [pd] at f
  | .kl _, _, f, g => by simp [pd] at f
theorem eqMs_dat : ∀ {xs ys : List MV}, pds xs = true → pds ys = true → PyData.eqvAll (datMs xs) (datMs ys) = eqMs xs ys
  | [], [], _, _ => by simp [datMs, PyData.eqvAll, eqMs]
  | [], _ :: _, _, _ => by simp [datMs, PyData.eqvAll, eqMs]
  | _ :: _, [], _, _ => by simp [datMs, PyData.eqvAll, eqMs]
  | x :: xs, y :: ys, f, g => by
    simp only [pds, Bool.and_eq_true] at f g
    simp only [datMs, PyData.eqvAll, eqMs, eqM_dat f.1 g.1, eqMs_dat f.2 g.2]
end
mutual
theorem eqM_refl : ∀ {x : MV}, pd x = true → eqM x x = true
  | .tup xs, f => by rw [eqM]; exact eqMs_refl (by simpa [pd] using f)
  | .lst xs, f => by rw [eqM]; exact eqMs_refl (by simpa [pd] using f)
  | .non, _ => by simp [eqM, flatEq]
  | .bl _, _ => by simp [eqM, flatEq]
  | .int _, _ => by simp [eqM, flatEq]
  | .str _, _ => by simp [eqM, flatEq]
  | .dct _ _, f => by simp [pd] at f
  | .ins _ _ _, f => by simp [pd] at f
  | .ref _, f => by simp [pd] at f
  | .fn _, f => by simp [pd] at f
  | .cls _, f => by simp [pd] at f
  | .ty _, f => by simp [pd] at f
  | .kl _, f => by simp [pd] at f
theorem eqMs_refl : ∀ {xs : List MV}, pds xs = true → eqMs xs xs = true
  | [], _ => by simp [eqMs]
  | x :: xs, f => by
    simp only [pds, Bool.and_eq_true] at f
    simp only [eqMs, eqM_refl f.1, eqMs_refl f.2, Bool.and_self]
end
theorem pd_shp {x : MV} (f : pd x = true) (l : dep x ≤ 64) : shapedB (datM x) = true := by
  obtain ⟨_, b, c⟩ := datM_of (h := []) f
  exact shp_of b (by omega)
theorem dataE_pd {x : MV} (f : pd x = true) : dataE (.v x) h = some (datM x) := by
  have := (datM_of (h := h) f).1
  cases x <;> first | exact this | (simp [pd] at f)
/-- x == y of pure data -/
theorem o_eqM {x y : MV} (f : pd x = true) (g : pd y = true) (l : dep x ≤ 64) (m : dep y ≤ 64) (q : Q (.bl (eqM x y)) h) : (ev2 .eq (.v x) (.v y) h).Post Q E :=
  o_eqD (dataE_pd f) (dataE_pd g) (pd_shp f l) (pd_shp g m) (by rw [eqM_dat f g]; exact q)
theorem o_neM {x y : MV} (f : pd x = true) (g : pd y = true) (l : dep x ≤ 64) (m : dep y ≤ 64) (q : Q (.bl (!eqM x y)) h) : (ev2 .ne (.v x) (.v y) h).Post Q E := by
  unfold ev2
  simp only [dataE_pd f, dataE_pd g, pd_shp f l, pd_shp g m, Bool.and_self, if_true, eqM_dat f g]
  exact q
theorem lst_dataE {e : EV} {xs : List MV} (hl : lstOf e h = some xs) (f : pds xs = true) : dataE e h = some (.list (datMs xs)) := by
  obtain ⟨a, _, _⟩ := datMs_of (h := h) f
  cases e with
  | x c => simp [lstOf, seqOf] at hl
  | w c p => cases c <;> simp [lstOf, seqOf] at hl <;> subst hl <;> simp [dataE, a]
  | v x =>
    cases x with
    | lst ys => simp [lstOf, seqOf] at hl; subst hl; simp [dataE, dataOf, a]
    | ref n =>
      simp only [lstOf, seqOf] at hl
      split at hl
      · rename_i e; cases hl; simp [dataE, e, a]
      · cases hl
    | _ => simp [lstOf, seqOf] at hl
/-- .. of lists, wherever they stand -/
theorem o_eqLs {x y : EV} {xs ys : List MV} (hx : lstOf x h = some xs) (hy : lstOf y h = some ys) (f : pds xs = true) (g : pds ys = true) (l : deps xs ≤ 60) (m : deps ys ≤ 60) (q : Q (.bl (eqMs xs ys)) h) : (ev2 .eq x y h).Post Q E := by
  obtain ⟨_, b, c⟩ := datMs_of (h := h) f
  obtain ⟨_, b', c'⟩ := datMs_of (h := h) g
  refine o_eqD (lst_dataE hx f) (lst_dataE hy g) (shp_of (by rw [PyData.canLay0]; exact b) (by rw [PyData.depth]; omega)) (shp_of (by rw [PyData.canLay0]; exact b') (by rw [PyData.depth]; omega)) ?_
  rw [PyData.eqv, eqMs_dat f g]
  exact q
theorem o_neLs {x y : EV} {xs ys : List MV} (hx : lstOf x h = some xs) (hy : lstOf y h = some ys) (f : pds xs = true) (g : pds ys = true) (l : deps xs ≤ 60) (m : deps ys ≤ 60) (q : Q (.bl (!eqMs xs ys)) h) : (ev2 .ne x y h).Post Q E := by
  obtain ⟨_, b, c⟩ := datMs_of (h := h) f
  obtain ⟨_, b', c'⟩ := datMs_of (h := h) g
  have s1 := shp_of (d := .list (datMs xs)) (by rw [PyData.canLay0]; exact b) (by rw [PyData.depth]; omega)
  have s2 := shp_of (d := .list (datMs ys)) (by rw [PyData.canLay0]; exact b') (by rw [PyData.depth]; omega)
  unfold ev2
  simp only [lst_dataE hx f, lst_dataE hy g, s1, s2, Bool.and_self, if_true]
  have : (Res.ok (MV.bl !(PyData.list (datMs xs)).eqv (PyData.list (datMs ys))) h).Post Q E ↔ Q (MV.bl !eqMs xs ys) h := by
    rw [PyData.eqv, eqMs_dat f g]; rfl
  exact this.mpr q
end
mutual
/-- no truth values within -/
def nb : MV → Bool
  | .bl _ => false
  | .tup xs => nbs xs
  | .lst xs => nbs xs
  | _ => true
def nbs : List MV → Bool
  | [] => true
  | x :: xs => nb x && nbs xs
end
mutual
theorem eqM_iff : ∀ {x y : MV}, pd x = true → pd y = true → nb x = true → nb y = true → (eqM x y = true ↔ x = y)
  | .tup xs, .tup ys, f, g, n, m => by rw [eqM, MV.tup.injEq]; exact eqMs_iff (by simpa [pd] using f) (by simpa [pd] using g) (by simpa [nb] using n) (by simpa [nb] using m)
  | .lst xs, .lst ys, f, g, n, m => by rw [eqM, MV.lst.injEq]; exact eqMs_iff (by simpa [pd] using f) (by simpa [pd] using g) (by simpa [nb] using n) (by simpa [nb] using m)
  | .non, y, f, g, n, m => by cases y <;> first | (simp [pd] at g; done) | (simp [nb] at m; done) | simp [eqM, flatEq]
  | .bl _, y, f, g, n, m => by simp [nb] at n
  | .int _, y, f, g, n, m => by cases y <;> first | (simp [pd] at g; done) | (simp [nb] at m; done) | simp [eqM, flatEq]
  | .str _, y, f, g, n, m => by cases y <;> first | (simp [pd] at g; done) | (simp [nb] at m; done) | simp [eqM, flatEq]
  | .tup _, .non, f, g, n, m => by simp [eqM, flatEq]
  | .tup _, .bl _, f, g, n, m => by simp [eqM, flatEq]
  | .tup _, .int _, f, g, n, m => by simp [eqM, flatEq]
  | .tup _, .str _, f, g, n, m => by simp [eqM, flatEq]
  | .tup _, .lst _, f, g, n, m => by simp [eqM, flatEq]
  | .lst _, .non, f, g, n, m => by simp [eqM, flatEq]
  | .lst _, .bl _, f, g, n, m => by simp [eqM, flatEq]
  | .lst _, .int _, f, g, n, m => by simp [eqM, flatEq]
  | .lst _, .str _, f, g, n, m => by simp [eqM, flatEq]
  | .lst _, .tup _, f, g, n, m => by simp [eqM, flatEq]
  | .tup _, .dct _ _, f, g, n, m => by simp [pd] at g
  | .tup _, .ins _ _ _, f, g, n, m => by simp [pd] at g
  | .tup _, .ref _, f, g, n, m => by simp [pd] at g
  | .tup _, .fn _, f, g, n, m => by simp [pd] at g
  | .tup _, .cls _, f, g, n, m => by simp [pd] at g
  | .tup _, .ty _, f, g, n, m => by simp [pd] at g
  | .tup _, .kl _, f, g, n, m => by simp [pd] at g
  | .lst _, .dct _ _, f, g, n, m => by simp [pd] at g
  | .lst _, .ins _ _ _, f, g, n, m => by simp [pd] at g
  | .lst _, .ref _, f, g, n, m => by simp [pd] at g
  | .lst _, .fn _, f, g, n, m => by simp [pd] at g
  | .lst _, .cls _, f, g, n, m => by simp [pd] at g
  | .lst _, .ty _, f, g, n, m => by simp [pd] at g
  | .lst _, .kl _, f, g, n, m => by simp [pd] at g
  | .dct _ _, _, f, g, n, m => by simp [pd] at f
  | .ins _ _ _, _, f, g, n, m => by simp [pd] at f
  | .ref _, _, f, g, n, m => by simp [pd] at f
  | .fn _, _, f, g, n, m => by simp [pd] at f
  | .cls _, _, f, g, n, m => by simp [pd] at f
  | .ty _, _, f, g, n, m => by simp [pd] at f
  | .kl _, _, f, g, n, m => by simp [pd] at f
theorem eqMs_iff : ∀ {xs ys : List MV}, pds xs = true → pds ys = true → nbs xs = true → nbs ys = true → (eqMs xs ys = true ↔ xs = ys)
  | [], [], _, _, _, _ => by simp [eqMs]
  | [], _ :: _, _, _, _, _ => by simp [eqMs]
  | _ :: _, [], _, _, _, _ => by simp [eqMs]
  | x :: xs, y :: ys, f, g, n, m => by
    simp only [pds, Bool.and_eq_true] at f g
    simp only [nbs, Bool.and_eq_true] at n m
    rw [eqMs, Bool.and_eq_true, eqM_iff f.1 g.1 n.1 m.1, eqMs_iff f.2 g.2 n.2 m.2, List.cons.injEq]
end
/-! ### good, pure, not deep -/
def gq (k : Nat) (v : MV) : Bool := gd v && (pd v && decide (dep v ≤ k))
theorem gq_of {k : Nat} {v : MV} (a : gd v = true) (b : pd v = true) (c : dep v ≤ k) : gq k v = true := by simp [gq, a, b, c]
theorem gq_gd {k : Nat} {v : MV} (h : gq k v = true) : gd v = true := by simp only [gq, Bool.and_eq_true] at h; exact h.1
theorem gq_pd {k : Nat} {v : MV} (h : gq k v = true) : pd v = true := by simp only [gq, Bool.and_eq_true] at h; exact h.2.1
theorem gq_dep {k : Nat} {v : MV} (h : gq k v = true) : dep v ≤ k := by simp only [gq, Bool.and_eq_true, decide_eq_true_eq] at h; exact h.2.2
theorem gq_mono {k m : Nat} {v : MV} (h : gq k v = true) (l : k ≤ m) : gq m v = true := gq_of (gq_gd h) (gq_pd h) (Nat.le_trans (gq_dep h) l)
theorem deps_le {k : Nat} : ∀ {xs : List MV}, (∀ x ∈ xs, dep x ≤ k) → deps xs ≤ k
  | [], _ => by simp [deps]
  | x :: xs, h => by
    rw [deps]
    exact Nat.max_le.mpr ⟨h x List.mem_cons_self, deps_le fun y hy => h y (List.mem_cons_of_mem _ hy)⟩
theorem gq_tup {k : Nat} {xs : List MV} (h : ∀ x ∈ xs, gq k x = true) : gq (k + 1) (.tup xs) = true :=
  gq_of (by simp only [gd]; exact (gds_all xs).mpr fun x hx => gq_gd (h x hx)) (by simp only [pd]; exact (pds_all xs).mpr fun x hx => gq_pd (h x hx)) (by rw [dep]; have := deps_le (k := k) fun x hx => gq_dep (h x hx); omega)
theorem gq_lst {k : Nat} {xs : List MV} (h : ∀ x ∈ xs, gq k x = true) : gq (k + 1) (.lst xs) = true :=
  gq_of (by simp only [gd]; exact (gds_all xs).mpr fun x hx => gq_gd (h x hx)) (by simp only [pd]; exact (pds_all xs).mpr fun x hx => gq_pd (h x hx)) (by rw [dep]; have := deps_le (k := k) fun x hx => gq_dep (h x hx); omega)
theorem gq_int {k : Nat} (i : Int) : gq (k + 1) (.int i) = true := gq_of rfl (by simp [pd]) (by simp [dep])
theorem gq_bl {k : Nat} (i : Bool) : gq (k + 1) (.bl i) = true := gq_of rfl (by simp [pd]) (by simp [dep])
theorem gq_non {k : Nat} : gq (k + 1) .non = true := gq_of rfl (by simp [pd]) (by simp [dep])
theorem gq_str {k : Nat} {s : Str} (g : gd (.str s) = true) : gq (k + 1) (.str s) = true := gq_of g (by have := gd_flat g; rw [pd]; exact this) (by simp [dep])
def gqs (k : Nat) (xs : List MV) : Prop := ∀ x ∈ xs, gq k x = true
theorem gqs_nil {k : Nat} : gqs k [] := fun _ h => (nomatch h)
theorem gqs_snoc {k : Nat} {xs : List MV} {y : MV} (a : gqs k xs) (b : gq k y = true) : gqs k (xs ++ [y]) := fun x hx => by
  rcases List.mem_append.mp hx with z | z
  · exact a x z
  · simp at z; subst z; exact b
theorem gqs_cons {k : Nat} {xs : List MV} {y : MV} (a : gq k y = true) (b : gqs k xs) : gqs k (y :: xs) := fun x hx => by
  rcases List.mem_cons.mp hx with z | z
  · subst z; exact a
  · exact b x z
theorem o_eqG {x y : MV} {k m : Nat} {h : MH} {Q : MV → MH → Prop} {E : Nat → MH → Prop} (f : gq k x = true) (g : gq m y = true) (l : k ≤ 60) (l2 : m ≤ 60) (q : Q (.bl (eqM x y)) h) : (ev2 .eq (.v x) (.v y) h).Post Q E :=
  o_eqM (gq_pd f) (gq_pd g) (by have := gq_dep f; omega) (by have := gq_dep g; omega) q
theorem o_neG {x y : MV} {k m : Nat} {h : MH} {Q : MV → MH → Prop} {E : Nat → MH → Prop} (f : gq k x = true) (g : gq m y = true) (l : k ≤ 60) (l2 : m ≤ 60) (q : Q (.bl (!eqM x y)) h) : (ev2 .ne (.v x) (.v y) h).Post Q E :=
  o_neM (gq_pd f) (gq_pd g) (by have := gq_dep f; omega) (by have := gq_dep g; omega) q
end MP
set_option Elab.async false
set_option linter.all false
set_option autoImplicit false
set_option maxRecDepth 100000
set_option maxHeartbeats 2000000
namespace K67
open PySem PySem.Spec L2 MP
local macro_rules | `(tactic| kby_none) => `(tactic| with_reducible first
  | refine s_one ?_ | refine s_cons ?_ | refine s_nil ?_ | refine s_ite ?_ | refine s_ret ?_ | refine s_set ?_ | refine s_exp ?_ | refine s_setIx ?_ | refine s_setOwn ?_ | refine s_unp ?_ | refine s_for ?_ | refine s_mut ?_
  | refine p_op ?_ | refine p_int ?_ | refine p_str ?_ | refine p_gl ?_ | refine p_bl ?_ | refine p_non ?_ | refine p_call ?_ | refine p_dens1 ?_ | refine p_dens0 ?_ | refine p_denE1 ?_ | refine p_denE0 ?_
  | refine p_ix ?_ | refine p_and ?_ | refine p_or ?_ | refine p_and1 ?_ | refine p_or1 ?_ | refine p_and2 ?_ | refine p_or2 ?_ | refine p_not ?_ | refine p_neg ?_ | refine p_chain ?_ | refine p_bi ?_ | refine p_tup ?_
  | refine p_sl ?_ | refine p_denO0 ?_ | refine p_denO1 ?_ | refine p_fzL ?_ | refine p_cl ?_ | refine p_lst ?_ | refine p_cat ?_ | refine p_list ?_ | refine p_comp ?_ | refine p_over ?_ | refine p_range1 ?_ | refine p_text ?_ | refine p_zip ?_ | refine p_dnew ?_ | refine p_denC0 ?_ | refine p_denC1 ?_
  | refine asV_v ?_ | refine isB_bl ?_ | refine ex_int ?_ | refine ex_bl ?_ ?_ | refine ex_bl' ?_ ?_ | refine ex_str ?_ | refine ex_tup ?_ | refine ex_zip ?_ | refine mut_own ?_ | refine bth_of ?_ ?_ | refine setTo_w1 ?_ | refine p_vl ?_ | refine setTo_0 ?_ | refine setTo_s ?_ | refine setsTo_0 ?_ | refine setsTo_s ?_ | refine asg_var ?_ | refine asg_tup ?_
  | refine imp_tt ?_ | refine imp_ff ?_ | exact imp_tf | exact imp_ft
  | refine o_add ?_ | refine o_sub ?_ | refine o_lt ?_ | refine o_le ?_ | refine o_gt ?_ | refine o_ge ?_ | refine o_eqI ?_ | refine o_neI ?_ | refine o_isB ?_ | refine o_isntB ?_ | refine o_lts ?_ | refine o_gts ?_
  | refine o_pow6 ?_ | refine o_pow9 ?_ | refine o_pow18 ?_ | refine o_pow30 ?_ | refine b_int ?_ | refine b_max ?_ | refine b_min ?_ | refine b_tupT ?_ | refine l_tup ?_ | refine x_tup0 ?_)
local macro_rules | `(tactic| k_ne) => `(tactic| first
  | ((with_reducible refine g_var ?_); first | refine p_var rfl ?_ | refine p_varO rfl ?_)
  | ((with_reducible first | refine isi_tup ?_ ?_ | refine isi_str ?_ ?_ | refine isi_int ?_ ?_ | refine isi_bool ?_ ?_ | refine isi_lst ?_ ?_); focus first | exact rfl | exact gd_dk (by assumption))
  | ((with_reducible first | refine o_eqS ?_ ?_ ?_ | refine o_neS ?_ ?_ ?_); (focus first | exact flatD_lit _ | exact gd_flat (by assumption)); (focus first | exact flatD_lit _ | exact gd_flat (by assumption)))
  | ((with_reducible refine g_len ?_); refine b_len rfl ?_)
  | (with_reducible first | refine x_cell (by assumption) ?_ | refine x_cell (get_set (by assumption)) ?_ | refine st_ref (by assumption) ?_)
  | ((with_reducible refine g_isO ?_); refine isO_of rfl ?_)
  | ((with_reducible refine g_ixt ?_); refine x_tup rfl ?_)
  | ((with_reducible refine g_btup ?_); refine b_tup rfl ?_)
  | ((with_reducible refine g_ix ?_); refine x_seq rfl rfl ?_)
  | ((with_reducible refine g_bord ?_); refine b_ord rfl ?_)
  | ((with_reducible refine cnd_of ?_ ?_); focus (simp only [List.length_cons, List.length_nil, List.length_append]; decide))
  | ((with_reducible refine g_frz ?_); first | refine s_freezeL rfl ?_ | refine s_freezeD rfl ?_)
  | ((with_reducible refine app_own ?_ ?_); focus (simp only [List.length_cons, List.length_nil, List.length_append]; decide))
  | ((with_reducible refine ex_rng ?_ ?_); focus omega)
  | ((with_reducible refine putPl_loc ?_ ?_); focus exact rfl)
  | ((with_reducible refine o_addt ?_ ?_); focus (simp only [List.length_cons, List.length_nil]; decide))
  | ((with_reducible first | refine o_mul ?_ ?_ | refine o_mod ?_ ?_ | refine o_fdiv ?_ ?_); focus omega)
  | ((with_reducible intro hk); first | (cases hk; done) | (simp [MP.kTup, MP.kStr, MP.kBl, MP.kIn, MP.kLs] at hk; done) | skip))
local macro_rules | `(tactic| k_all) => `(tactic| repeat' (first | kby_none | k_ne))
def isInt : MV → Bool
  | .int i => decide (-1000000000000000000 ≤ i) && decide (i ≤ 1000000000000000000)
  | _ => false
def isNum : MV → Bool
  | .int i => decide (0 ≤ i) && decide (i ≤ 1000000000000000000)
  | _ => false
def chOk (c : Nat) : Bool := decide (32 ≤ c) && (decide (c ≤ 126) && decide (c ≠ 37))
def isTxt : MV → Bool
  | .str s => decide (s.length ≤ 200) && s.cps.toList.all chOk
  | _ => false
section
variable {W n : Nat} {v : MV} {h : MH} {Q : MV → MH → Prop} {E : Nat → MH → Prop}
theorem w0 (d : dk v = true) (q : Q (.bl (isInt v)) h) : (callF T W fns (n + 1) 0 [v] h).Post Q E := by
  refine p_callF rfl rfl rfl ?_
  show SO.P (execs _ _ _ f0.df.body [.val v] h) _
  unfold f0
  dsimp only
  cases v <;> first | (cases d; done) | skip
  all_goals k_all
  all_goals (refine qb q ?_; simp_all [isInt] <;> omega)
theorem w1 (d : dk v = true) (q : Q (.bl (isNum v)) h) : (callF T W fns (n + 2) 1 [v] h).Post Q E := by
  refine p_callF rfl rfl rfl ?_
  show SO.P (execs _ _ _ f1.df.body [.val v] h) _
  unfold f1
  dsimp only
  k_all
  refine w0 d ?_
  cases v <;> first | (cases d; done) | skip
  all_goals k_all
  all_goals (refine qb q ?_; simp_all [isInt, isNum] <;> omega)
theorem lt_sp (c : Nat) : decide ((⟨#[c]⟩ : Str).cps.toList < (Str.ofString " ").cps.toList) = decide (c < 32) := by
  have e : (Str.ofString " ").cps.toList = [32] := by decide +kernel
  rw [e]
  congr 1
  simp [List.cons_lt_cons_iff]
theorem gt_ti (c : Nat) : decide ((Str.ofString "~").cps.toList < (⟨#[c]⟩ : Str).cps.toList) = decide (126 < c) := by
  have e : (Str.ofString "~").cps.toList = [126] := by decide +kernel
  rw [e]
  congr 1
  simp [List.cons_lt_cons_iff]
theorem w2 (d : gd v = true) (q : Q (.bl (isTxt v)) h) : (callF T W fns (n + 1) 2 [v] h).Post Q E := by
  refine p_callF rfl rfl rfl ?_
  show SO.P (execs _ _ _ f2.df.body [.val v, .un] h) _
  unfold f2
  dsimp only
  k_all
  · refine qb q ?_
    cases v <;> simp_all [isTxt, kStr]
  · obtain ⟨s, rfl⟩ := kStr_inv' ‹(!kStr _) = false›
    refine b_len (n := s.length) (by simp [lenOf, gd_len d]) ?_
    k_all
    · refine qb q ?_
      simp_all [isTxt]; omega
    · rename_i hl
      have hl : s.length ≤ 200 := by simp at hl; omega
      refine s_forI (fun r sg h' => h' = h ∧ ∃ cs c, r = cs.map (fun c => MV.str ⟨#[c]⟩) ∧ sg = [.val (.str s), c] ∧ s.cps.toList.all chOk = cs.all chOk) _ (fun x r sg h' i => ?_) (fun sg h' i => ?_) _ _ ⟨rfl, s.cps.toList, _, rfl, rfl, rfl⟩
      · obtain ⟨rfl, cs, c, e1, rfl, e2⟩ := i
        cases cs with
        | nil => cases e1
        | cons b cs =>
          obtain ⟨rfl, rfl⟩ := List.cons.inj e1
          k_all
          · refine qb q ?_
            rename_i hk
            rw [lt_sp] at hk
            simp only [isTxt, e2, List.all_cons, chOk]
            simp at hk ⊢; omega
          · refine qb q ?_
            rename_i hk
            rw [gt_ti] at hk
            simp only [isTxt, e2, List.all_cons, chOk]
            simp at hk ⊢; omega
          · refine qb q ?_
            rename_i hk
            simp only [isTxt, e2, List.all_cons, chOk]
            simp at hk ⊢; omega
          · refine ⟨rfl, rfl, cs, _, rfl, rfl, ?_⟩
            rename_i h1 h2 h3
            rw [lt_sp] at h1
            rw [gt_ti] at h2
            rw [e2, List.all_cons]
            have : chOk b = true := by
              simp [chOk] at h1 h2 h3 ⊢; omega
            rw [this, Bool.true_and]
      · obtain ⟨rfl, cs, c, e1, rfl, e2⟩ := i
        cases cs with
        | cons b cs => cases e1
        | nil =>
          k_all
          refine qb q ?_
          simp only [isTxt, e2]
          simp [hl]
/-- is_deed -/
def nz : MV → Bool
  | .str s => decide (s ≠ Str.ofString "")
  | _ => true
def isDeed : MV → Bool
  | .tup xs => decide (1 ≤ xs.length ∧ xs.length ≤ 4) && ((xs.all fun x => isInt x || isTxt x) && (match xs with
    | x :: _ => isTxt x && nz x
    | [] => false))
  | _ => false
theorem w3 (d : gd v = true) (q : Q (.bl (isDeed v)) h) : (callF T W fns (n + 2) 3 [v] h).Post Q E := by
  refine p_callF rfl rfl rfl ?_
  show SO.P (execs _ _ _ f3.df.body [.val v, .un] h) _
  unfold f3
  dsimp only
  k_all
  · refine qb q ?_
    cases v <;> simp_all [isDeed, MP.kTup]
  · obtain ⟨xs, rfl⟩ := MP.kTup_inv' ‹(!MP.kTup _) = false›
    k_all
    · refine qb q ?_
      simp_all [isDeed]; omega
    · rename_i h1 h2
      have hl : 1 ≤ xs.length ∧ xs.length ≤ 4 := by simp at h1 h2; omega
      have gx : ∀ x ∈ xs, gd x = true := (gds_all xs).mp (by simpa [gd] using d)
      refine s_forI (fun r sg h' => h' = h ∧ ∃ ys c, xs = ys ++ r ∧ sg = [.val (.tup xs), c] ∧ (ys.all fun x => isInt x || isTxt x) = true) _ (fun x r sg h' i => ?_) (fun sg h' i => ?_) _ _ ⟨rfl, [], _, rfl, rfl, rfl⟩
      · obtain ⟨rfl, ys, c, e1, rfl, e2⟩ := i
        have gx' : gd x = true := gx x (by rw [e1]; simp)
        k_all
        refine w0 (gd_dk gx') ?_
        k_all
        · refine w2 gx' ?_
          k_all
          · refine qb q ?_
            rename_i h3 h4
            have h5 : (xs.all fun x => isInt x || isTxt x) = false := by
              rw [e1]; simp only [List.all_append, List.all_cons]
              simp at h3 h4; simp [h3, h4]
            simp [isDeed, h5]
          · refine ⟨rfl, rfl, ys ++ [x], _, by rw [e1]; simp, rfl, ?_⟩
            rename_i h3 h4
            simp at h3 h4
            simp at e2
            simp [h3, h4]; exact e2
        · refine ⟨rfl, rfl, ys ++ [x], _, by rw [e1]; simp, rfl, ?_⟩
          rename_i h3
          simp at h3
          simp at e2
          simp [h3]; exact e2
      · obtain ⟨rfl, ys, c, e1, rfl, e2⟩ := i
        simp only [List.append_nil] at e1
        subst e1
        cases xs with
        | nil => simp at hl
        | cons y ys =>
          have gy : gd y = true := gx y (by simp)
          k_all
          refine w2 gy ?_
          k_all
          · rename_i h3
            cases y <;> first | (cases h3; done) | skip
            k_all
            refine qb q ?_
            simp only [isDeed, e2, h3, hl, nz]
            simp
          · refine qb q ?_
            rename_i h3
            simp only [isDeed, e2, h3]
            simp
    · refine qb q ?_
      simp_all [isDeed]; omega
/-- is_machine -/
def kindsL : List MV := [.str (Str.ofString "journal"), .str (Str.ofString "manager"), .str (Str.ofString "client")]
def isMach : MV → Bool
  | .tup [.str s, b] => (kindsL.any fun z => flatEq z (.str s)) && isNum b
  | _ => false
theorem w4 (d : gd v = true) (q : Q (.bl (isMach v)) h) : (callF T W fns (n + 3) 4 [v] h).Post Q E := by
  refine p_callF rfl rfl rfl ?_
  show SO.P (execs _ _ _ f4.df.body [.val v] h) _
  unfold f4
  dsimp only
  k_all
  · refine qb q ?_
    cases v <;> simp_all [isMach, MP.kTup]
  · obtain ⟨xs, rfl⟩ := MP.kTup_inv' ‹(!MP.kTup _) = false›
    have gx : ∀ x ∈ xs, gd x = true := (gds_all xs).mp (by simpa [gd] using d)
    k_all
    · refine qb q ?_
      rename_i h1
      simp only [isMach]
      split <;> simp_all
    · rename_i h1
      have hl : xs.length = 2 := by simp at h1; omega
      match xs, hl, gx, d, q with
      | [a, b], _, gx, d, q =>
        have ga : gd a = true := gx a (by simp)
        have gb : gd b = true := gx b (by simp)
        k_all
        · obtain ⟨s, rfl⟩ := kStr_inv ‹kStr _ = true›
          refine o_in (k := kindsL.any fun z => flatEq z (.str s)) rfl ?_
          k_all
          · refine w1 (gd_dk gb) ?_
            k_all
            refine qb q ?_
            rename_i h3
            simp only [isMach, h3, Bool.true_and]
          · refine qb q ?_
            rename_i h3
            simp only [isMach, h3, Bool.false_and]
        · refine qb q ?_
          cases a <;> first | (cases ‹kStr _ = false›; done) | rfl
/-- is_field -/
def isLog : MV → Bool
  | .tup [a, _, c] => isNum a && MP.kTup c
  | _ => false
def pos : MV → Bool
  | .int i => decide (0 < i)
  | _ => false
def fieldOk (k : String) (v : MV) : Bool :=
  if k = "number" then isNum v else if k = "count" then isNum v && pos v else if k = "deed" then isDeed v else if k = "records" then MP.kTup v else if k = "log" then isLog v else true
theorem num_int {v : MV} (h : isNum v = true) : ∃ i, v = .int i := by cases v <;> first | exact ⟨_, rfl⟩ | cases h
theorem w5 {k : String} (d : gd v = true) (q : Q (.bl (fieldOk k v)) h) : (callF T W fns (n + 3) 5 [.str (Str.ofString k), v] h).Post Q E := by
  refine p_callF rfl rfl rfl ?_
  show SO.P (execs _ _ _ f5.df.body [.val (.str (Str.ofString k)), .val v] h) _
  unfold f5
  dsimp only
  k_all
  · rename_i h1
    have h1 : k = "number" := strO_inj.mp (of_decide_eq_true h1)
    refine w1 (gd_dk d) ?_
    k_all
    refine qb q ?_
    simp [fieldOk, h1]
  · rename_i h0 h1
    have h1 : k = "count" := strO_inj.mp (of_decide_eq_true h1)
    refine w1 (gd_dk d) ?_
    k_all
    · obtain ⟨i, rfl⟩ := num_int ‹isNum v = true›
      k_all
      refine qb q ?_
      rename_i h2
      simp [fieldOk, h1, h2, pos]
    · refine qb q ?_
      rename_i h2
      simp [fieldOk, h1, h2]
  · rename_i h1
    have h1 : k = "deed" := strO_inj.mp (of_decide_eq_true h1)
    refine w3 d ?_
    k_all
    refine qb q ?_
    simp [fieldOk, h1]
  · rename_i h1
    have h1 : k = "records" := strO_inj.mp (of_decide_eq_true h1)
    refine qb q ?_
    simp [fieldOk, h1]
  · rename_i h1 h2
    have h1 : k = "log" := strO_inj.mp (of_decide_eq_true h1)
    obtain ⟨xs, rfl⟩ := MP.kTup_inv ‹MP.kTup _ = true›
    have gx : ∀ x ∈ xs, gd x = true := (gds_all xs).mp (by simpa [gd] using d)
    k_all
    · rename_i h3
      have hl : xs.length = 3 := by simp at h3; omega
      match xs, hl, gx, d, q with
      | [a, b, c], _, gx, d, q =>
        have ga : gd a = true := gx a (by simp)
        have gc : gd c = true := gx c (by simp)
        k_all
        refine w1 (gd_dk ga) ?_
        k_all
        · refine qb q ?_
          rename_i h4
          simp [fieldOk, h1, h4, isLog]
        · refine qb q ?_
          rename_i h4
          simp [fieldOk, h1, h4, isLog]
    · refine qb q ?_
      rename_i h3
      simp only [fieldOk, h1]
      simp [isLog]
      split <;> simp_all
  · rename_i h1 h2
    have h1 : k = "log" := strO_inj.mp (of_decide_eq_true h1)
    refine qb q ?_
    simp [fieldOk, h1]
    cases v <;> simp_all [isLog, MP.kTup]
  · refine qb q ?_
    rename_i a b c d e
    have f : ∀ m : String, decide (Str.ofString k = Str.ofString m) = false → k ≠ m := fun m z => fun y => of_decide_eq_false z (by rw [y])
    simp [fieldOk, f _ a, f _ b, f _ c, f _ d, f _ e]
/-- is_body -/
def forms : List (String × String × String × List String) := [("promise", "manager", "journal", ["number"]), ("sync", "manager", "journal", ["number", "log"]), ("edit", "manager", "journal", ["number", "count", "records"]), ("purge", "manager", "journal", ["number", "number", "any"]), ("ping", "manager", "journal", ["number", "number"]),
  ("promised", "journal", "manager", ["number", "number", "log"]), ("synced", "journal", "manager", ["number", "number"]), ("ponged", "journal", "manager", ["number", "number"]), ("refused", "journal", "manager", ["number", "number"]), ("request", "client", "manager", ["count", "deed"]), ("read", "client", "manager", ["count", "deed"]),
  ("answer", "manager", "client", ["count", "any"]), ("value", "manager", "client", ["count", "number", "any"])]
def rowOf (f : String × String × String × List String) : MV := .tup [.str (Str.ofString f.2.1), .str (Str.ofString f.2.2.1), .tup (f.2.2.2.map fun x => .str (Str.ofString x))]
def formL (s : Str) : Option (String × String × String × List String) := forms.find? fun f => decide (Str.ofString f.1 = s)
theorem find_forms (s : Str) : findK (kk_FORMS.map fun x => (Sum.inr (Str.ofString x) : Key)) kv_FORMS (Sum.inr s) = (formL s).map rowOf := by
  have e1 : (kk_FORMS.map fun x => (Sum.inr (Str.ofString x) : Key)) = forms.map fun f => Sum.inr (Str.ofString f.1) := rfl
  have e2 : kv_FORMS = forms.map rowOf := rfl
  rw [e1, e2]
  unfold formL
  generalize forms = l
  induction l with
  | nil => rfl
  | cons f l ih =>
    simp only [List.map_cons, findK, List.find?_cons]
    by_cases c : Str.ofString f.1 = s
    · subst c; simp
    · have : ((Sum.inr (Str.ofString f.1) : Key) = Sum.inr s) ↔ False := by simp [c]
      simp only [this, if_false, c, decide_false]
      exact ih
def isBody (a b : Str) : MV → Bool
  | .tup (.str m :: xs) => (match formL m with
    | some f => decide (Str.ofString f.2.1 = a) && (decide (Str.ofString f.2.2.1 = b) && (decide (f.2.2.2.length = xs.length) && ((f.2.2.2.zip xs).all fun p => fieldOk p.1 p.2)))
    | none => false)
  | _ => false
theorem w6 {a b : Str} (da : gd (.str a) = true) (db : gd (.str b) = true) (d : gd v = true) (q : Q (.bl (isBody a b v)) h) : (callF T W fns (n + 4) 6 [.str a, .str b, v] h).Post Q E := by
  refine p_callF rfl rfl rfl ?_
  show SO.P (execs _ _ _ f6.df.body [.val (.str a), .val (.str b), .val v, .un, .un, .un] h) _
  unfold f6
  dsimp only
  k_all
  · refine qb q ?_
    cases v <;> simp_all [isBody, MP.kTup]
  · obtain ⟨xs, rfl⟩ := MP.kTup_inv' ‹(!MP.kTup _) = false›
    have gx : ∀ x ∈ xs, gd x = true := (gds_all xs).mp (by simpa [gd] using d)
    k_all
    · refine qb q ?_
      cases xs with
      | nil => rfl
      | cons _ _ =>
        rename_i h1
        simp at h1; omega
    · cases xs with
      | nil => simp at *
      | cons x xs =>
        have ga : gd x = true := gx x (by simp)
        k_all
        · refine qb q ?_
          cases x <;> simp_all [isBody, kStr]
        · obtain ⟨m, rfl⟩ := kStr_inv' ‹(!kStr _) = false›
          refine o_notin (k := ((formL m).map rowOf).isSome) (by simp [inEv, inDS, dctOf, keyD, k_FORMS, find_forms]) ?_
          k_all
          · refine qb q ?_
            rename_i h1
            cases hf : formL m <;> simp_all [isBody]
          · cases hf : formL m with
            | none => simp_all
            | some f =>
              refine x_dct (ks := kk_FORMS.map fun x => (Sum.inr (Str.ofString x) : Key)) (vs := kv_FORMS) (v := rowOf f) rfl rfl (by simp [keyD, k_FORMS, find_forms, hf]) ?_
              unfold rowOf
              k_all
              · refine qb q ?_
                rename_i h1
                simp at h1; simp [isBody, hf, h1]
              · refine qb q ?_
                rename_i h1
                simp at h1; simp [isBody, hf, h1]
              · refine qb q ?_
                rename_i h1
                simp at h1; simp [isBody, hf]
                intros; omega
              · rename_i h1 h2 h3
                simp at h1 h2 h3
                have hl : f.2.2.2.length = xs.length := by omega
                have e0 : isBody a b (.tup (.str m :: xs)) = ((f.2.2.2.zip xs).all fun p => fieldOk p.1 p.2) := by simp [isBody, hf, h1, h2, hl]
                have gx' : ∀ x ∈ xs, gd x = true := fun x hx => gx x (by simp [hx])
                refine s_forI (fun r sg h' => h' = h ∧ ∃ (ks : List String) (ys : List MV) (c d : LV), r = ((ks.map fun x => MV.str (Str.ofString x)).zip ys).map (fun p => MV.tup [p.1, p.2]) ∧ (∀ y ∈ ys, gd y = true) ∧ sg = [.val (.str a), .val (.str b), .val (.tup (.str m :: xs)), .val (rowOf f), c, d] ∧ ((f.2.2.2.zip xs).all fun p => fieldOk p.1 p.2) = ((ks.zip ys).all fun p => fieldOk p.1 p.2)) _ (fun x r sg h' i => ?_) (fun sg h' i => ?_) _ _ ⟨rfl, f.2.2.2, xs, _, _, ?_, gx', rfl, rfl⟩
                · obtain ⟨rfl, ks, ys, c, d, e1, gy, rfl, e2⟩ := i
                  cases ks with
                  | nil => cases e1
                  | cons k ks =>
                    cases ys with
                    | nil => cases e1
                    | cons y ys =>
                      obtain ⟨rfl, rfl⟩ := List.cons.inj e1
                      have gy' : gd y = true := gy y (by simp)
                      k_all
                      refine w5 gy' ?_
                      k_all
                      · refine qb q ?_
                        rename_i h4
                        rw [e0, e2]
                        simp at h4
                        simp [h4]
                      · rename_i h4
                        refine ⟨rfl, rfl, ks, ys, _, _, rfl, fun y hy => gy y (by simp [hy]), rfl, ?_⟩
                        rw [e2]
                        simp at h4
                        simp [h4]
                · obtain ⟨rfl, ks, ys, c, d, e1, gy, rfl, e2⟩ := i
                  k_all
                  refine qb q ?_
                  rw [e0, e2]
                  cases ks <;> cases ys <;> first | rfl | cases e1
                · simp [cutM, HT.sIx]
/-- is_message -/
def isMsg : MV → Bool
  | .tup [.tup [.str a, x], .tup [.str b, y], z] => isMach (.tup [.str a, x]) && (isMach (.tup [.str b, y]) && isBody a b z)
  | _ => false
theorem mach_inv {v : MV} (h : isMach v = true) : ∃ s x, v = .tup [.str s, x] := by
  unfold isMach at h
  split at h
  · exact ⟨_, _, rfl⟩
  · cases h
theorem w7 (d : gd v = true) (q : Q (.bl (isMsg v)) h) : (callF T W fns (n + 5) 7 [v] h).Post Q E := by
  refine p_callF rfl rfl rfl ?_
  show SO.P (execs _ _ _ f7.df.body [.val v, .un, .un, .un] h) _
  unfold f7
  dsimp only
  k_all
  · refine qb q ?_
    cases v <;> simp_all [isMsg, MP.kTup]
  · obtain ⟨xs, rfl⟩ := MP.kTup_inv' ‹(!MP.kTup _) = false›
    have gx : ∀ x ∈ xs, gd x = true := (gds_all xs).mp (by simpa [gd] using d)
    k_all
    · refine qb q ?_
      rename_i h1
      unfold isMsg
      split <;> simp_all
    · rename_i h1
      have hl : xs.length = 3 := by simp at h1; omega
      match xs, hl, gx, d, q with
      | [a, b, c], _, gx, d, q =>
        have ga : gd a = true := gx a (by simp)
        have gb : gd b = true := gx b (by simp)
        have gc : gd c = true := gx c (by simp)
        k_all
        refine w4 ga ?_
        k_all
        · rename_i h2
          obtain ⟨s, x, rfl⟩ := mach_inv h2
          refine w4 gb ?_
          k_all
          · rename_i h3
            obtain ⟨t, y, rfl⟩ := mach_inv h3
            k_all
            refine w6 (by simp [gd, gds] at ga ⊢; exact ga.1) (by simp [gd, gds] at gb ⊢; exact gb.1) gc ?_
            k_all
            refine qb q ?_
            simp [isMsg, h2, h3]
          · refine qb q ?_
            rename_i h3
            unfold isMsg
            split
            · rename_i e
              cases e
              simp [h3]
            · rfl
        · refine qb q ?_
          rename_i h3
          unfold isMsg
          split
          · rename_i e
            cases e
            simp [h3]
          · rfl
end
end K67
set_option Elab.async false
set_option linter.all false
set_option autoImplicit false
set_option maxRecDepth 100000
set_option maxHeartbeats 2000000
namespace K67
open PySem PySem.Spec L2 MP
local macro_rules | `(tactic| kby_none) => `(tactic| with_reducible first
  | refine s_one ?_ | refine s_cons ?_ | refine s_nil ?_ | refine s_ite ?_ | refine s_ret ?_ | refine s_set ?_ | refine s_exp ?_ | refine s_setIx ?_ | refine s_setOwn ?_ | refine s_unp ?_ | refine s_for ?_ | refine s_mut ?_
  | refine p_op ?_ | refine p_int ?_ | refine p_str ?_ | refine p_gl ?_ | refine p_bl ?_ | refine p_non ?_ | refine p_call ?_ | refine p_dens1 ?_ | refine p_dens0 ?_ | refine p_denE1 ?_ | refine p_denE0 ?_
  | refine p_ix ?_ | refine p_and ?_ | refine p_or ?_ | refine p_and1 ?_ | refine p_or1 ?_ | refine p_and2 ?_ | refine p_or2 ?_ | refine p_not ?_ | refine p_neg ?_ | refine p_chain ?_ | refine p_bi ?_ | refine p_tup ?_
  | refine p_sl ?_ | refine p_denO0 ?_ | refine p_denO1 ?_ | refine p_fzL ?_ | refine p_cl ?_ | refine p_lst ?_ | refine p_cat ?_ | refine p_list ?_ | refine p_comp ?_ | refine p_over ?_ | refine p_range1 ?_ | refine p_text ?_ | refine p_zip ?_ | refine p_dnew ?_ | refine p_denC0 ?_ | refine p_denC1 ?_
  | refine asV_v ?_ | refine isB_bl ?_ | refine ex_int ?_ | refine ex_bl ?_ ?_ | refine ex_bl' ?_ ?_ | refine ex_str ?_ | refine ex_tup ?_ | refine ex_zip ?_ | refine mut_own ?_ | refine bth_of ?_ ?_ | refine setTo_w1 ?_ | refine p_vl ?_ | refine setTo_0 ?_ | refine setTo_s ?_ | refine setsTo_0 ?_ | refine setsTo_s ?_ | refine asg_var ?_ | refine asg_tup ?_
  | refine imp_tt ?_ | refine imp_ff ?_ | exact imp_tf | exact imp_ft
  | refine o_add ?_ | refine o_sub ?_ | refine o_lt ?_ | refine o_le ?_ | refine o_gt ?_ | refine o_ge ?_ | refine o_eqI ?_ | refine o_neI ?_ | refine o_isB ?_ | refine o_isntB ?_ | refine o_lts ?_ | refine o_gts ?_
  | refine o_pow6 ?_ | refine o_pow9 ?_ | refine o_pow18 ?_ | refine o_pow30 ?_ | refine b_int ?_ | refine b_max ?_ | refine b_min ?_ | refine b_tupT ?_ | refine l_tup ?_ | refine x_tup0 ?_)
local macro_rules | `(tactic| k_ne) => `(tactic| first
  | ((with_reducible refine g_var ?_); first | refine p_var rfl ?_ | refine p_varO rfl ?_)
  | ((with_reducible first | refine isi_tup ?_ ?_ | refine isi_str ?_ ?_ | refine isi_int ?_ ?_ | refine isi_bool ?_ ?_ | refine isi_lst ?_ ?_); focus first | exact rfl | exact gd_dk (by assumption))
  | ((with_reducible first | refine o_eqS ?_ ?_ ?_ | refine o_neS ?_ ?_ ?_); (focus first | exact flatD_lit _ | exact gd_flat (by assumption)); (focus first | exact flatD_lit _ | exact gd_flat (by assumption)))
  | ((with_reducible refine g_len ?_); refine b_len rfl ?_)
  | (with_reducible first | refine x_cell (by assumption) ?_ | refine x_cell (get_set (by assumption)) ?_ | refine st_ref (by assumption) ?_)
  | ((with_reducible refine g_isO ?_); refine isO_of rfl ?_)
  | ((with_reducible refine g_ixt ?_); refine x_tup rfl ?_)
  | ((with_reducible refine g_btup ?_); refine b_tup rfl ?_)
  | ((with_reducible refine g_ix ?_); refine x_seq rfl rfl ?_)
  | ((with_reducible refine g_bord ?_); refine b_ord rfl ?_)
  | ((with_reducible refine cnd_of ?_ ?_); focus (simp only [List.length_cons, List.length_nil, List.length_append]; decide))
  | ((with_reducible refine g_frz ?_); first | refine s_freezeL rfl ?_ | refine s_freezeD rfl ?_)
  | ((with_reducible refine app_own ?_ ?_); focus (simp only [List.length_cons, List.length_nil, List.length_append]; decide))
  | ((with_reducible refine ex_rng ?_ ?_); focus omega)
  | ((with_reducible refine putPl_loc ?_ ?_); focus exact rfl)
  | ((with_reducible refine o_addt ?_ ?_); focus (simp only [List.length_cons, List.length_nil]; decide))
  | ((with_reducible first | refine o_mul ?_ ?_ | refine o_mod ?_ ?_ | refine o_fdiv ?_ ?_); focus omega)
  | ((with_reducible intro hk); first | (cases hk; done) | (simp [MP.kTup, MP.kStr, MP.kBl, MP.kIn, MP.kLs] at hk; done) | skip))
local macro_rules | `(tactic| k_all) => `(tactic| repeat' (first | kby_none | k_ne))
section
variable {W n : Nat} {h h0 : MH} {r : Nat} {Q : MV → MH → Prop} {E : Nat → MH → Prop}
/-- _law_stream -/
theorem w8 {i k : Int} (hk : 0 ≤ k ∧ k < 64) (q : ∀ d s : Int, Q (.ref h.length) (h ++ [.ct (.lst [.int d, .int s])])) : (callF T W fns (n + 1) 8 [.int i, .int k] h).Post Q E := by
  refine p_callF rfl rfl rfl ?_
  show SO.P (execs _ _ _ f8.df.body [.val (.int i), .val (.int k), .un] h) _
  unfold f8
  dsimp only
  k_all
  all_goals exact q _ _
/-- _law_next -/
theorem w9 {k : Int} (c : Ch r h0 h) (k0 : 0 < k) (k1 : k < 1073741824) (q : ∀ i h', 0 ≤ i → i < k → Ch r h0 h' → Q (.int i) h') : (callF T W fns (n + 1) 9 [.ref r, .int k] h).Post Q E := by
  refine p_callF rfl rfl rfl ?_
  show SO.P (execs _ _ _ f9.df.body [.val (.ref r), .val (.int k), .un] h) _
  unfold f9
  dsimp only
  obtain ⟨d, s, e⟩ := c.st
  k_all
  · refine q _ _ (Int.emod_nonneg _ (by omega)) (Int.emod_lt_of_pos _ k0) (c.set _ _)
  · refine q _ _ (Int.emod_nonneg _ (by omega)) (Int.emod_lt_of_pos _ k0) (c.set _ _)
/-- _law_machine -/
theorem w10 (c : Ch r h0 h) (q : ∀ v i h', v ∈ kindsL → 0 ≤ i → i ≤ 1000000000000000000 → Ch r h0 h' → Q (.tup [v, .int i]) h') : (callF T W fns (n + 2) 10 [.ref r] h).Post Q E := by
  refine p_callF rfl rfl rfl ?_
  show SO.P (execs _ _ _ f10.df.body [.val (.ref r), .un, .un] h) _
  unfold f10
  dsimp only
  k_all
  refine w9 c (by decide) (by decide) fun i h1 i0 i1 c => ?_
  k_all
  refine x_any (xs := kindsL) rfl i0 (by simpa [kindsL] using i1) fun v hv => ?_
  k_all
  refine w9 c (by decide) (by decide) fun j h2 j0 j1 c => ?_
  k_all
  refine w9 c (by decide) (by decide) fun k h3 k0 k1 c => ?_
  k_all
  · refine w9 c (by decide) (by decide) fun a h4 a0 a1 c => ?_
    k_all
    refine w9 c (by decide) (by decide) fun b h5 b0 b1 c => ?_
    k_all
    refine w9 c (by decide) (by decide) fun e h6 e0 e1 c => ?_
    k_all
    · exact q v _ _ hv (by omega) (by omega) c
    · exact q v _ _ hv (by omega) (by omega) c
  · refine w9 c (by decide) (by decide) fun e h6 e0 e1 c => ?_
    k_all
    · exact q v _ _ hv (by omega) (by omega) c
    · exact q v _ _ hv (by omega) (by omega) c
/-- _law_forms -/
def rw4 (a b c d : String) : MV := .tup [.str (Str.ofString a), .str (Str.ofString b), .str (Str.ofString c), .str (Str.ofString d)]
def lforms : List (String × String × String × String) := [("promise", "manager", "journal", "n"), ("sync", "manager", "journal", "nl"), ("edit", "manager", "journal", "ncr"), ("purge", "manager", "journal", "nnx"), ("ping", "manager", "journal", "nn"), ("promised", "journal", "manager", "nnl"), ("synced", "journal", "manager", "nn"), ("ponged", "journal", "manager", "nn"),
  ("refused", "journal", "manager", "nn"), ("request", "client", "manager", "cd"), ("read", "client", "manager", "cd"), ("answer", "manager", "client", "cx"), ("value", "manager", "client", "cnx")]
def lrows : List MV := lforms.map fun f => rw4 f.1 f.2.1 f.2.2.1 f.2.2.2
theorem w11 (q : Q (.lst lrows) h) : (callF T W fns (n + 1) 11 [] h).Post Q E := by
  refine p_callF rfl rfl rfl ?_
  show SO.P (execs _ _ _ f11.df.body [.un] h) _
  unfold f11
  dsimp only
  k_all
  exact q
/-- _law_number -/
theorem w12 (c : Ch r h0 h) (q : ∀ i h', 0 ≤ i → i ≤ 1000000000000000000 → Ch r h0 h' → Q (.int i) h') : (callF T W fns (n + 2) 12 [.ref r] h).Post Q E := by
  refine p_callF rfl rfl rfl ?_
  show SO.P (execs _ _ _ f12.df.body [.val (.ref r)] h) _
  unfold f12
  dsimp only
  k_all
  refine w9 c (by decide) (by decide) fun i h1 i0 i1 c => ?_
  k_all
  · refine w9 c (by decide) (by decide) fun j h2 j0 j1 c => ?_
    k_all
    exact q _ _ (by omega) (by omega) c
  · refine w9 c (by decide) (by decide) fun j h2 j0 j1 c => ?_
    k_all
    exact q _ _ (by omega) (by omega) c
/-- _law_deed -/
def dNames : List MV := [.str (Str.ofString "append"), .str (Str.ofString "seal"), .str (Str.ofString "x"), .str (Str.ofString "limit"), .str (Str.ofString "zz")]
def dItems : List MV := [.str (Str.ofString "/a"), .int 0, .int (-1000000000000000000), .str (Str.ofString ""), .int 1000000000000000000, .str (Str.ofString "b c")]
theorem names_ok : ∀ x ∈ dNames, gd x = true ∧ isTxt x = true ∧ nz x = true := by decide +kernel
theorem items_ok : ∀ x ∈ dItems, gd x = true ∧ (isInt x || isTxt x) = true := by decide +kernel
theorem deed_ok {x : MV} {xs : List MV} (hx : x ∈ dNames) (hl : xs.length ≤ 3) (hs : ∀ y ∈ xs, y ∈ dItems) : gq 2 (.tup (x :: xs)) = true ∧ isDeed (.tup (x :: xs)) = true := by
  obtain ⟨a, b, c⟩ := names_ok x hx
  have n1 : ∀ x ∈ dNames, gq 1 x = true := by decide +kernel
  have n2 : ∀ x ∈ dItems, gq 1 x = true := by decide +kernel
  constructor
  · exact gq_tup (gqs_cons (n1 x hx) fun y hy => n2 y (hs y hy))
  · have e : (xs.all fun x => isInt x || isTxt x) = true := List.all_eq_true.mpr fun y hy => (items_ok y (hs y hy)).2
    simp only [isDeed, List.all_cons, e, b, c, List.length_cons]
    simp; omega
theorem w13 (c : Ch r h0 h) (q : ∀ v h', gq 2 v = true → isDeed v = true → Ch r h0 h' → Q v h') : (callF T W fns (n + 2) 13 [.ref r] h).Post Q E := by
  refine p_callF rfl rfl rfl ?_
  show SO.P (execs _ _ _ f13.df.body [.val (.ref r), .un, .un] h) _
  unfold f13
  dsimp only
  k_all
  refine w9 c (by decide) (by decide) fun i h1 i0 i1 c => ?_
  k_all
  refine x_any (xs := dNames) rfl i0 (by simpa [dNames] using i1) fun v hv => ?_
  k_all
  refine w9 c (by decide) (by decide) fun j h2 j0 j1 c => ?_
  k_all
  refine s_forI (fun rs sg h' => Ch r h0 h' ∧ ∃ ys k, ys.length + rs.length ≤ 3 ∧ (∀ y ∈ ys, y ∈ dItems) ∧ sg = [.val (.ref r), .own (.lst (v :: ys)), k]) _ (fun x rs sg h' i => ?_) (fun sg h' i => ?_) _ _ ⟨c, [], _, ?_, fun _ z => (by cases z), rfl⟩
  · obtain ⟨c, ys, k, hl, hs, rfl⟩ := i
    k_all
    refine w9 c (by decide) (by decide) fun i h1 i0 i1 c => ?_
    k_all
    refine x_any (xs := dItems) rfl i0 (by simpa [dItems] using i1) fun x hx => ?_
    k_all
    refine app_own ?_ ?_
    · simp only [List.length_cons] at hl ⊢
      have : sizeLine = 16777216 := rfl
      omega
    · k_all
      refine ⟨rfl, c, ys ++ [x], _, ?_, ?_, rfl⟩
      · simp at hl ⊢; omega
      · intro y hy
        rcases List.mem_append.mp hy with z | z
        · exact hs y z
        · simp at z; subst z; exact hx
  · obtain ⟨c, ys, k, hl, hs, rfl⟩ := i
    k_all
    obtain ⟨a, b⟩ := deed_ok hv (by simpa using hl) hs
    exact q _ _ a b c
  · simp [rangeL]; omega
/-- _law_thing -/
theorem w14 (c : Ch r h0 h) (q : ∀ v h', gq 3 v = true → Ch r h0 h' → Q v h') : (callF T W fns (n + 2) 14 [.ref r] h).Post Q E := by
  refine p_callF rfl rfl rfl ?_
  show SO.P (execs _ _ _ f14.df.body [.val (.ref r), .un] h) _
  unfold f14
  dsimp only
  k_all
  refine w9 c (by decide) (by decide) fun i h1 i0 i1 c => ?_
  k_all
  refine x_any rfl i0 i1 fun v hv => ?_
  k_all
  refine q v _ ?_ c
  revert v
  decide +kernel
end
end K67
set_option Elab.async false
set_option linter.all false
set_option autoImplicit false
set_option maxRecDepth 100000
set_option maxHeartbeats 2000000
namespace K67
open PySem PySem.Spec L2 MP
local macro_rules | `(tactic| kby_none) => `(tactic| with_reducible first
  | refine s_one ?_ | refine s_cons ?_ | refine s_nil ?_ | refine s_ite ?_ | refine s_ret ?_ | refine s_set ?_ | refine s_exp ?_ | refine s_setIx ?_ | refine s_setOwn ?_ | refine s_unp ?_ | refine s_for ?_ | refine s_mut ?_
  | refine p_op ?_ | refine p_int ?_ | refine p_str ?_ | refine p_gl ?_ | refine p_bl ?_ | refine p_non ?_ | refine p_call ?_ | refine p_dens1 ?_ | refine p_dens0 ?_ | refine p_denE1 ?_ | refine p_denE0 ?_
  | refine p_ix ?_ | refine p_and ?_ | refine p_or ?_ | refine p_and1 ?_ | refine p_or1 ?_ | refine p_and2 ?_ | refine p_or2 ?_ | refine p_not ?_ | refine p_neg ?_ | refine p_chain ?_ | refine p_bi ?_ | refine p_tup ?_
  | refine p_sl ?_ | refine p_denO0 ?_ | refine p_denO1 ?_ | refine p_fzL ?_ | refine p_cl ?_ | refine p_lst ?_ | refine p_cat ?_ | refine p_list ?_ | refine p_comp ?_ | refine p_over ?_ | refine p_range1 ?_ | refine p_text ?_ | refine p_zip ?_ | refine p_dnew ?_ | refine p_denC0 ?_ | refine p_denC1 ?_
  | refine asV_v ?_ | refine isB_bl ?_ | refine ex_int ?_ | refine ex_bl ?_ ?_ | refine ex_bl' ?_ ?_ | refine ex_str ?_ | refine ex_tup ?_ | refine ex_zip ?_ | refine mut_own ?_ | refine bth_of ?_ ?_ | refine setTo_w1 ?_ | refine p_vl ?_ | refine setTo_0 ?_ | refine setTo_s ?_ | refine setsTo_0 ?_ | refine setsTo_s ?_ | refine asg_var ?_ | refine asg_tup ?_
  | refine imp_tt ?_ | refine imp_ff ?_ | exact imp_tf | exact imp_ft
  | refine o_add ?_ | refine o_sub ?_ | refine o_lt ?_ | refine o_le ?_ | refine o_gt ?_ | refine o_ge ?_ | refine o_eqI ?_ | refine o_neI ?_ | refine o_isB ?_ | refine o_isntB ?_ | refine o_lts ?_ | refine o_gts ?_
  | refine o_pow6 ?_ | refine o_pow9 ?_ | refine o_pow18 ?_ | refine o_pow30 ?_ | refine b_int ?_ | refine b_max ?_ | refine b_min ?_ | refine b_tupT ?_ | refine l_tup ?_ | refine x_tup0 ?_)
local macro_rules | `(tactic| k_ne) => `(tactic| first
  | ((with_reducible refine g_var ?_); first | refine p_var rfl ?_ | refine p_varO rfl ?_)
  | ((with_reducible first | refine isi_tup ?_ ?_ | refine isi_str ?_ ?_ | refine isi_int ?_ ?_ | refine isi_bool ?_ ?_ | refine isi_lst ?_ ?_); focus first | exact rfl | exact gd_dk (by assumption))
  | ((with_reducible first | refine o_eqS ?_ ?_ ?_ | refine o_neS ?_ ?_ ?_); (focus first | exact flatD_lit _ | exact gd_flat (by assumption)); (focus first | exact flatD_lit _ | exact gd_flat (by assumption)))
  | ((with_reducible refine g_len ?_); refine b_len rfl ?_)
  | (with_reducible first | refine x_cell (by assumption) ?_ | refine x_cell (get_set (by assumption)) ?_ | refine st_ref (by assumption) ?_)
  | ((with_reducible refine g_isO ?_); refine isO_of rfl ?_)
  | ((with_reducible refine g_ixt ?_); refine x_tup rfl ?_)
  | ((with_reducible refine g_btup ?_); refine b_tup rfl ?_)
  | ((with_reducible refine g_ix ?_); refine x_seq rfl rfl ?_)
  | ((with_reducible refine g_bord ?_); refine b_ord rfl ?_)
  | ((with_reducible refine cnd_of ?_ ?_); focus (simp only [List.length_cons, List.length_nil, List.length_append]; decide))
  | ((with_reducible refine g_frz ?_); first | refine s_freezeL rfl ?_ | refine s_freezeD rfl ?_)
  | ((with_reducible refine app_own ?_ ?_); focus (simp only [List.length_cons, List.length_nil, List.length_append]; decide))
  | ((with_reducible refine ex_rng ?_ ?_); focus omega)
  | ((with_reducible refine putPl_loc ?_ ?_); focus exact rfl)
  | ((with_reducible refine o_addt ?_ ?_); focus (simp only [List.length_cons, List.length_nil]; decide))
  | ((with_reducible first | refine o_mul ?_ ?_ | refine o_mod ?_ ?_ | refine o_fdiv ?_ ?_); focus omega)
  | ((with_reducible intro hk); first | (cases hk; done) | (simp [MP.kTup, MP.kStr, MP.kBl, MP.kIn, MP.kLs] at hk; done) | skip))
local macro_rules | `(tactic| k_all) => `(tactic| repeat' (first | kby_none | k_ne))
def kindM (m : Str) : String := if m = Str.ofString "n" then "number" else if m = Str.ofString "c" then "count" else if m = Str.ofString "d" then "deed" else if m = Str.ofString "r" then "records" else if m = Str.ofString "l" then "log" else "any"
def bad (v : MV) : Prop := isNum v = false
section
variable {W n : Nat} {h h0 : MH} {r : Nat} {Q : MV → MH → Prop} {E : Nat → MH → Prop}
theorem s_ne {a b : String} {X : Prop} (hk : decide (Str.ofString a = Str.ofString b) = true) (c : a ≠ b) : X := absurd (strO_inj.mp (of_decide_eq_true hk)) c
/-- _law_field, records -/
theorem w15r (c : Ch r h0 h) (q : ∀ v h', gq 4 v = true → MP.kTup v = true → Ch r h0 h' → Q v h') : (callF T W fns (n + 3) 15 [.ref r, .str (Str.ofString "r")] h).Post Q E := by
  refine p_callF rfl rfl rfl ?_
  show SO.P (execs _ _ _ f15.df.body [.val (.ref r), .val (.str (Str.ofString "r")), .un] h) _
  unfold f15
  dsimp only
  k_all
  all_goals first | exact absurd rfl (of_decide_eq_false (p := Str.ofString "r" = Str.ofString "r") (by assumption)) | skip
  refine w9 c (by decide) (by decide) fun j h2 j0 j1 c => ?_
  k_all
  refine p_compI (fun rs acc h' => Ch r h0 h' ∧ gqs 3 acc ∧ acc.length + rs.length ≤ 3 ∧ ∃ i, rs = (rangeL 0 j.toNat).drop i) _ (fun x rs acc h' i => ?_) (fun acc h' i => ?_) _ _ ⟨c, gqs_nil, ?_, 0, rfl⟩
  · obtain ⟨c, g, l, i, e⟩ := i
    have hx : ∃ z : Int, x = .int z := by
      have : x ∈ rangeL 0 j.toNat := List.mem_of_mem_drop (i := i) (by rw [← e]; simp)
      simp [rangeL] at this
      obtain ⟨z, _, rfl⟩ := this
      exact ⟨z, rfl⟩
    obtain ⟨z, rfl⟩ := hx
    k_all
    refine w13 c fun v h' gv _ c => ?_
    k_all
    refine ⟨?_, rfl, c, ?_, ?_, i + 1, ?_⟩
    · have : sizeLine = 16777216 := rfl
      simp at l; omega
    · exact gqs_snoc g (gq_tup (gqs_cons (gq_int _) (gqs_cons (gq_int _) (gqs_cons gv gqs_nil))))
    · simp at l ⊢; omega
    · rw [← List.tail_drop, ← e]; rfl
  · obtain ⟨c, g, l, i, e⟩ := i
    k_all
    exact q _ _ (gq_tup g) rfl c
  · simp [rangeL]; omega
/-- _law_field -/
theorem w15 {m : Str} (dm : gd (.str m) = true) (c : Ch r h0 h) (q : ∀ v h', gq 5 v = true → fieldOk (kindM m) v = true → Ch r h0 h' → Q v h') : (callF T W fns (n + 4) 15 [.ref r, .str m] h).Post Q E := by
  by_cases hr : m = Str.ofString "r"
  · subst hr
    refine w15r c fun v h' g k c => q v h' (gq_mono g (by decide)) ?_ c
    have : kindM (Str.ofString "r") = "records" := by decide +kernel
    rw [this]
    simp [fieldOk, k]
  refine p_callF rfl rfl rfl ?_
  show SO.P (execs _ _ _ f15.df.body [.val (.ref r), .val (.str m), .un] h) _
  unfold f15
  dsimp only
  k_all
  all_goals first | exact absurd (of_decide_eq_true (p := m = Str.ofString "r") (by assumption)) hr | skip
  · rename_i h1
    have h1 := of_decide_eq_true h1
    refine w12 c fun i h1 i0 i1 c => ?_
    k_all
    refine q _ _ (gq_int _) ?_ c
    have : kindM m = "number" := by simp [kindM, *]
    rw [this]
    simp [fieldOk, isNum, i0, i1]
  · rename_i h0 h1
    have h1 := of_decide_eq_true h1
    refine w12 c fun i h2 i0 i1 c => ?_
    k_all
    refine q _ _ (gq_int _) ?_ c
    have : kindM m = "count" := by rw [h1]; decide +kernel
    rw [this]
    simp only [fieldOk, isNum, pos]
    simp; split <;> omega
  · rename_i h1
    have h1 := of_decide_eq_true h1
    refine w13 c fun v h2 gv dv c => ?_
    k_all
    refine q _ _ (gq_mono gv (by decide)) ?_ c
    have : kindM m = "deed" := by rw [h1]; decide +kernel
    rw [this]
    simpa [fieldOk] using dv
  · rename_i h1 h2
    have hl := of_decide_eq_true h2
    refine w12 c fun i h2 i0 i1 c => ?_
    k_all
    refine w14 c fun v h3 gv c => ?_
    k_all
    refine w15r c fun u h4 gu ku c => ?_
    k_all
    refine q _ _ (gq_tup (gqs_cons (gq_int _) (gqs_cons (gq_mono gv (by decide)) (gqs_cons gu gqs_nil)))) ?_ c
    have : kindM m = "log" := by rw [hl]; decide +kernel
    rw [this]
    simp [fieldOk, isLog, isNum, i0, i1, ku]
  · refine w14 c fun v h3 gv c1 => ?_
    k_all
    refine q _ _ (gq_mono gv (by decide)) ?_ c1
    have f : ∀ s : String, decide (m = Str.ofString s) = false → m ≠ Str.ofString s := fun s z => of_decide_eq_false z
    have : kindM m = "any" := by
      rename_i a b c _ e
      simp [kindM, f _ a, f _ b, f _ c, f _ e, hr]
    rw [this]
    simp [fieldOk]
/-! ### bodies -/
def chars (m : String) : List Nat := (Str.ofString m).cps.toList
def kinds (m : String) : List String := (chars m).map fun c => kindM ⟨#[c]⟩
def mks (m : String) (vs : List MV) : Prop := vs.length = (chars m).length ∧ (((kinds m).zip vs).all fun p => fieldOk p.1 p.2) = true ∧ gqs 5 vs
theorem zip_snoc {ks : List String} {acc : List MV} {k : String} {y : MV} {P : String × MV → Bool} (hl : acc.length = ks.length) (a : ((ks.zip acc).all P) = true) (b : P (k, y) = true) : (((ks ++ [k]).zip (acc ++ [y])).all P) = true := by
  rw [List.zip_append hl.symm, List.all_append, a]
  simp [b]
/-- _law_body -/
theorem w16 {a b d m : String} (ga : gd (.str (Str.ofString a)) = true) (gm : gd (.str (Str.ofString m)) = true) (hl : (chars m).length ≤ 3) (c : Ch r h0 h) (q : ∀ vs h', mks m vs → Ch r h0 h' → Q (.tup (.str (Str.ofString a) :: vs)) h') : (callF T W fns (n + 5) 16 [.ref r, rw4 a b d m] h).Post Q E := by
  refine p_callF rfl rfl rfl ?_
  show SO.P (execs _ _ _ f16.df.body [.val (.ref r), .val (rw4 a b d m), .un] h) _
  unfold f16 rw4
  dsimp only
  k_all
  refine p_compI (fun rs acc h' => Ch r h0 h' ∧ ∃ cs ds, chars m = cs ++ ds ∧ rs = ds.map (fun c => MV.str ⟨#[c]⟩) ∧ acc.length = cs.length ∧ (((cs.map fun c => kindM ⟨#[c]⟩).zip acc).all fun p => fieldOk p.1 p.2) = true ∧ gqs 5 acc) _ (fun x rs acc h' i => ?_) (fun acc h' i => ?_) _ _ ⟨c, [], chars m, rfl, rfl, rfl, rfl, gqs_nil⟩
  · obtain ⟨c, cs, ds, e1, e2, e3, e4, g⟩ := i
    cases ds with
    | nil => cases e2
    | cons e ds =>
      obtain ⟨rfl, rfl⟩ := List.cons.inj e2
      have ge : gd (.str ⟨#[e]⟩) = true := by
        simp only [gd, Bool.and_eq_true] at gm ⊢
        refine ⟨decide_eq_true (show (1 : Nat) ≤ sizeLine by decide), ?_⟩
        have := gm.2
        rw [Array.all_eq_true_iff_forall_mem] at this ⊢
        intro x hx
        simp at hx
        subst hx
        refine this x ?_
        rw [← Array.mem_toList_iff]
        show x ∈ chars m
        rw [e1]; simp
      k_all
      refine w15 ge c fun v h' gv fv c => ?_
      k_all
      refine ⟨?_, rfl, c, cs ++ [e], ds, by rw [e1]; simp, rfl, by simp [e3], ?_, ?_⟩
      · have : sizeLine = 16777216 := rfl
        have : cs.length ≤ 3 := by rw [e1, List.length_append] at hl; omega
        omega
      · rw [List.map_append]
        exact zip_snoc (by simp [e3]) e4 fv
      · exact gqs_snoc g gv
  · obtain ⟨c, cs, ds, e1, e2, e3, e4, g⟩ := i
    cases ds with
    | cons _ _ => cases e2
    | nil =>
      rw [List.append_nil] at e1
      k_all
      refine o_addt ?_ ?_
      · have : sizeLine = 16777216 := rfl
        simp; rw [e3, ← e1]; omega
      k_all
      exact q acc _ ⟨by rw [e1]; exact e3, by unfold kinds; rw [e1]; exact e4, g⟩ c
end
end K67
set_option Elab.async false
set_option linter.all false
set_option autoImplicit false
set_option maxRecDepth 100000
set_option maxHeartbeats 4000000
namespace K67
open PySem PySem.Spec L2 MP
local macro_rules | `(tactic| kby_none) => `(tactic| with_reducible first
  | refine s_one ?_ | refine s_cons ?_ | refine s_nil ?_ | refine s_ite ?_ | refine s_ret ?_ | refine s_set ?_ | refine s_exp ?_ | refine s_setIx ?_ | refine s_setOwn ?_ | refine s_unp ?_ | refine s_for ?_ | refine s_mut ?_
  | refine p_op ?_ | refine p_int ?_ | refine p_str ?_ | refine p_gl ?_ | refine p_bl ?_ | refine p_non ?_ | refine p_call ?_ | refine p_dens1 ?_ | refine p_dens0 ?_ | refine p_denE1 ?_ | refine p_denE0 ?_
  | refine p_ix ?_ | refine p_and ?_ | refine p_or ?_ | refine p_and1 ?_ | refine p_or1 ?_ | refine p_and2 ?_ | refine p_or2 ?_ | refine p_not ?_ | refine p_neg ?_ | refine p_chain ?_ | refine p_bi ?_ | refine p_tup ?_
  | refine p_sl ?_ | refine p_denO0 ?_ | refine p_denO1 ?_ | refine p_fzL ?_ | refine p_cl ?_ | refine p_lst ?_ | refine p_cat ?_ | refine p_list ?_ | refine p_comp ?_ | refine p_over ?_ | refine p_range1 ?_ | refine p_text ?_ | refine p_zip ?_ | refine p_dnew ?_ | refine p_denC0 ?_ | refine p_denC1 ?_
  | refine asV_v ?_ | refine isB_bl ?_ | refine ex_int ?_ | refine ex_bl ?_ ?_ | refine ex_bl' ?_ ?_ | refine ex_str ?_ | refine ex_tup ?_ | refine ex_zip ?_ | refine mut_own ?_ | refine bth_of ?_ ?_ | refine setTo_w1 ?_ | refine p_vl ?_ | refine setTo_0 ?_ | refine setTo_s ?_ | refine setsTo_0 ?_ | refine setsTo_s ?_ | refine asg_var ?_ | refine asg_tup ?_
  | refine imp_tt ?_ | refine imp_ff ?_ | exact imp_tf | exact imp_ft
  | refine o_add ?_ | refine o_sub ?_ | refine o_lt ?_ | refine o_le ?_ | refine o_gt ?_ | refine o_ge ?_ | refine o_eqI ?_ | refine o_neI ?_ | refine o_isB ?_ | refine o_isntB ?_ | refine o_lts ?_ | refine o_gts ?_
  | refine o_pow6 ?_ | refine o_pow9 ?_ | refine o_pow18 ?_ | refine o_pow30 ?_ | refine b_int ?_ | refine b_max ?_ | refine b_min ?_ | refine b_tupT ?_ | refine l_tup ?_ | refine x_tup0 ?_)
local macro_rules | `(tactic| k_ne) => `(tactic| first
  | ((with_reducible refine g_var ?_); first | refine p_var rfl ?_ | refine p_varO rfl ?_)
  | ((with_reducible first | refine isi_tup ?_ ?_ | refine isi_str ?_ ?_ | refine isi_int ?_ ?_ | refine isi_bool ?_ ?_ | refine isi_lst ?_ ?_); focus first | exact rfl | exact gd_dk (by assumption))
  | ((with_reducible first | refine o_eqS ?_ ?_ ?_ | refine o_neS ?_ ?_ ?_); (focus first | exact flatD_lit _ | exact gd_flat (by assumption)); (focus first | exact flatD_lit _ | exact gd_flat (by assumption)))
  | ((with_reducible refine g_len ?_); refine b_len rfl ?_)
  | (with_reducible first | refine x_cell (by assumption) ?_ | refine x_cell (get_set (by assumption)) ?_ | refine st_ref (by assumption) ?_)
  | ((with_reducible refine g_isO ?_); refine isO_of rfl ?_)
  | ((with_reducible refine g_ixt ?_); refine x_tup rfl ?_)
  | ((with_reducible refine g_btup ?_); refine b_tup rfl ?_)
  | ((with_reducible refine g_ix ?_); refine x_seq rfl rfl ?_)
  | ((with_reducible refine g_bord ?_); refine b_ord rfl ?_)
  | ((with_reducible refine cnd_of ?_ ?_); focus (simp only [List.length_cons, List.length_nil, List.length_append]; decide))
  | ((with_reducible refine g_frz ?_); first | refine s_freezeL rfl ?_ | refine s_freezeD rfl ?_)
  | ((with_reducible refine app_own ?_ ?_); focus (simp only [List.length_cons, List.length_nil, List.length_append]; decide))
  | ((with_reducible refine ex_rng ?_ ?_); focus omega)
  | ((with_reducible refine putPl_loc ?_ ?_); focus exact rfl)
  | ((with_reducible refine o_addt ?_ ?_); focus (simp only [List.length_cons, List.length_nil]; decide))
  | ((with_reducible first | refine o_mul ?_ ?_ | refine o_mod ?_ ?_ | refine o_fdiv ?_ ?_); focus omega)
  | ((with_reducible intro hk); first | (cases hk; done) | (simp [MP.kTup, MP.kStr, MP.kBl, MP.kIn, MP.kLs] at hk; done) | skip))
local macro_rules | `(tactic| k_all) => `(tactic| repeat' (first | kby_none | k_ne))
/-- what is known of a row -/
structure Row (a b d m : String) : Prop where
  form : formL (Str.ofString a) = some (a, b, d, kinds m)
  ga : gd (.str (Str.ofString a)) = true
  gb : gd (.str (Str.ofString b)) = true
  gr : gd (.str (Str.ofString d)) = true
  gm : gd (.str (Str.ofString m)) = true
  ne : b ≠ d
  len : 1 ≤ (chars m).length ∧ (chars m).length ≤ 3
  la : (Str.ofString a).length ≤ 100
  kd : ∀ c ∈ chars m, (⟨#[c]⟩ : Str) ≠ Str.ofString "x" → kindM ⟨#[c]⟩ ≠ "any"
  fst : ∀ c, (chars m)[0]? = some c → (⟨#[c]⟩ : Str) ≠ Str.ofString "x" ∧ (kindM ⟨#[c]⟩ = "number" ∨ kindM ⟨#[c]⟩ = "count")
  s : formL (Str.ofString a ++ Str.ofString "s") = none
  gs : gd (.str (Str.ofString a ++ Str.ofString "s")) = true
  kb : .str (Str.ofString b) ∈ kindsL
  kr : .str (Str.ofString d) ∈ kindsL
theorem rows_ok : ∀ f ∈ lforms, Row f.1 f.2.1 f.2.2.1 f.2.2.2 := by
  have all : ∀ f ∈ lforms, formL (Str.ofString f.1) = some (f.1, f.2.1, f.2.2.1, kinds f.2.2.2) ∧ gd (.str (Str.ofString f.1)) = true ∧ gd (.str (Str.ofString f.2.1)) = true ∧ gd (.str (Str.ofString f.2.2.1)) = true ∧ gd (.str (Str.ofString f.2.2.2)) = true ∧ f.2.1 ≠ f.2.2.1 ∧ 1 ≤ (chars f.2.2.2).length ∧ (chars f.2.2.2).length ≤ 3 ∧
    (Str.ofString f.1).length ≤ 100 ∧ (∀ c ∈ chars f.2.2.2, (⟨#[c]⟩ : Str) ≠ Str.ofString "x" → kindM ⟨#[c]⟩ ≠ "any") ∧ (∀ c ∈ (chars f.2.2.2).take 1, (⟨#[c]⟩ : Str) ≠ Str.ofString "x" ∧ (kindM ⟨#[c]⟩ = "number" ∨ kindM ⟨#[c]⟩ = "count")) ∧
    formL (Str.ofString f.1 ++ Str.ofString "s") = none ∧ gd (.str (Str.ofString f.1 ++ Str.ofString "s")) = true ∧ .str (Str.ofString f.2.1) ∈ kindsL ∧ .str (Str.ofString f.2.2.1) ∈ kindsL := by decide +kernel
  intro f hf
  obtain ⟨x1, x2, x3, x4, x5, x6, x7, x8, x9, x10, x11, x12, x13, x14, x15⟩ := all f hf
  refine ⟨x1, x2, x3, x4, x5, x6, ⟨x7, x8⟩, x9, x10, fun c hc => x11 c ?_, x12, x13, x14, x15⟩
  cases e : chars f.2.2.2 with
  | nil => rw [e] at hc; cases hc
  | cons y ys => rw [e] at hc; simp at hc; simp [hc]
theorem kinds_len (m : String) : (kinds m).length = (chars m).length := by simp [kinds]
section
variable {W n : Nat} {h h0 : MH} {r : Nat} {Q : MV → MH → Prop} {E : Nat → MH → Prop} {a b d m : String} {vs : List MV}
theorem body_ok (R : Row a b d m) (k : mks m vs) (s t : Str) : isBody s t (.tup (.str (Str.ofString a) :: vs)) = (decide (Str.ofString b = s) && decide (Str.ofString d = t)) := by
  have e : (kinds m).length = vs.length := by rw [kinds_len, k.1]
  simp only [isBody, R.form, e, k.2.1]
  simp
theorem len_bad (R : Row a b d m) {xs : List MV} (l : xs.length ≠ (chars m).length) (s t : Str) : isBody s t (.tup (.str (Str.ofString a) :: xs)) = false := by
  have e : (kinds m).length ≠ xs.length := by rw [kinds_len]; exact fun z => l z.symm
  simp only [isBody, R.form]
  simp [e]
theorem tail_bad (R : Row a b d m) (k : mks m vs) (s t : Str) : isBody s t (.tup vs) = false := by
  cases vs with
  | nil => rfl
  | cons x xs =>
    cases e : chars m with
    | nil => have := k.1; rw [e] at this; cases this
    | cons c cs =>
      have f := (R.fst c (by rw [e]; rfl)).2
      have g := k.2.1
      simp only [kinds, e, List.map_cons, List.zip_cons_cons, List.all_cons, Bool.and_eq_true] at g
      have hn : isNum x = true := by
        rcases f with f | f
        · have := g.1; rw [f] at this; simpa [fieldOk] using this
        · have := g.1; rw [f] at this; simp [fieldOk] at this; exact this.1
      obtain ⟨i, rfl⟩ := num_int hn
      rfl

/-! ### messages -/
/-- a message that is one, and what the law asks of it -/
structure Msg (v : MV) : Prop where
  ok : isMsg v = true
  gq : gq 8 v = true
  shp : ∃ (a b d m : String) (vs : List MV) (i j : Int), Row a b d m ∧ mks m vs ∧ v = .tup [.tup [.str (Str.ofString b), .int i], .tup [.str (Str.ofString d), .int j], .tup (.str (Str.ofString a) :: vs)]
theorem kinds_any {s : String} (h : MV.str (Str.ofString s) ∈ kindsL) : (kindsL.any fun z => flatEq z (.str (Str.ofString s))) = true :=
  List.any_eq_true.mpr ⟨_, h, by simp [flatEq]⟩
theorem msg_ok (R : Row a b d m) (k : mks m vs) {i j : Int} (i0 : 0 ≤ i) (i1 : i ≤ 1000000000000000000) (j0 : 0 ≤ j) (j1 : j ≤ 1000000000000000000) :
    Msg (.tup [.tup [.str (Str.ofString b), .int i], .tup [.str (Str.ofString d), .int j], .tup (.str (Str.ofString a) :: vs)]) := by
  refine ⟨?_, ?_, a, b, d, m, vs, i, j, R, k, rfl⟩
  · simp only [isMsg, isMach, kinds_any R.kb, kinds_any R.kr, isNum, i0, i1, j0, j1, body_ok R k]
    simp
  · refine gq_mono (k := 7) (gq_tup (gqs_cons (gq_tup (gqs_cons (gq_str R.gb) (gqs_cons (gq_int _) gqs_nil))) (gqs_cons (gq_tup (gqs_cons (gq_str R.gr) (gqs_cons (gq_int _) gqs_nil))) (gqs_cons (gq_tup (gqs_cons (gq_str R.ga) k.2.2)) gqs_nil)))) (by decide)
/-- _law_message -/
theorem w19 (c : Ch r h0 h) (q : ∀ v h', Msg v → Ch r h0 h' → Q v h') : (callF T W fns (n + 6) 19 [.ref r] h).Post Q E := by
  refine p_callF rfl rfl rfl ?_
  show SO.P (execs _ _ _ f19.df.body [.val (.ref r), .un] h) _
  unfold f19
  dsimp only
  k_all
  refine w11 ?_
  k_all
  refine w9 c (by decide) (by decide) fun i h1 i0 i1 c => ?_
  k_all
  refine x_any (xs := lrows) rfl i0 (by simpa [lrows, lforms] using i1) fun v hv => ?_
  obtain ⟨⟨a, b, d, m⟩, hf, rfl⟩ := List.mem_map.mp hv
  have R := rows_ok _ hf
  unfold rw4
  k_all
  refine w10 c fun v1 i1 h2 _ i0 i1' c => ?_
  k_all
  refine w10 c fun v2 i2 h3 _ j0 j1 c => ?_
  k_all
  refine w16 R.ga R.gm R.len.2 c fun vs h4 k c => ?_
  k_all
  exact q _ _ (msg_ok R k i0 i1' j0 j1) c
end
end K67
set_option Elab.async false
set_option linter.all false
set_option autoImplicit false
set_option maxRecDepth 100000
set_option maxHeartbeats 2000000
/-! MR, part c: rules of the meaning for objects, dicts and their walks. -/
namespace MP
open PySem PySem.Spec L2
section
variable {T : Tb} {call : Nat → List MV → MH → Res MV} {W : Nat} {σ : ML} {h : MH} {E : Nat → MH → Prop} {K : Ks} {n c m : Nat} {fs : List (String × Fd)} {f : String}
theorem s_setFd {d : Fd} (e : h[n]? = some (.ins c fs)) (tf : T.fld c f = true) (hl : fs.length < 1000) (q : K.nx σ (h.set n (.ins c (putFd f d fs)))) : (setFd T (.ref n) f d σ h).P K := by
  unfold setFd
  simp only [e, tf, hl, and_self, if_true]
  exact q
theorem p_fldR {v : MV} {Q : EV → MH → Prop} (e : h[n]? = some (.ins c fs)) (tf : T.fld c f = true) (g : getF fs f = some (.val v)) (q : Q (.v v) h) : (fldOf T (.ref n) f h).Post Q E := by
  unfold fldOf
  simp only [e, tf, g, if_true]
  exact q
theorem p_fldW {k : Ct} {Q : EV → MH → Prop} (e : h[n]? = some (.ins c fs)) (tf : T.fld c f = true) (g : getF fs f = some (.own k)) (q : Q (.w k (.fld n f)) h) : (fldOf T (.ref n) f h).Post Q E := by
  unfold fldOf
  simp only [e, tf, g, if_true]
  exact q
theorem flat_at {v : MV} (e : h[n]? = some (.ins c fs)) (tf : T.fld c f = true) (g : getF fs f = some (.val v)) (fl : isFlat v = true) : flatAt T (.ref n) f h = some (c, v) := by
  unfold flatAt
  simp only [e, tf, g, fl, if_true]
theorem cls_at (e : h[n]? = some (.ins c fs)) : clsAt (.ref n) h = some c := by
  unfold clsAt; simp only [e]
theorem cls_of {x : String} (e : h[n]? = some (.ins c fs)) (g : getF fs x = none) : clsOf (.ref n) x h = some c := by
  unfold clsOf; simp only [e, g, Option.isNone_none, if_true]
/-- the method that is called -/
theorem meth_at {x : String} {k : Nat} (e : h[n]? = some (.ins c fs)) (g : getF fs x = none) (t : T.meth c x = some k) : ((clsOf (.ref n) x h).bind fun c => T.meth c x) = some k := by
  rw [cls_of e g]; exact t
theorem ct_at {k : Ct} (e : h[n]? = some (.ct k)) : ctOf (.v (.ref n)) h = some k := by simp [ctOf, e]
theorem put_at {k k' : Ct} (e : h[n]? = some (.ct k)) (q : K.nx σ (h.set n (.ct k'))) : (putPl (.v (.ref n)) k' σ h).P K := by
  unfold putPl; simp only [e]; exact q
theorem get_ne {h : MH} {m n : Nat} {c d : Cell} (hm : m ≠ n) (e : h[m]? = some c) : (h.set n d)[m]? = some c := by rw [List.getElem?_set_ne (fun z => hm z.symm)]; exact e
theorem get_app {h g : MH} {n : Nat} {c : Cell} (e : h[n]? = some c) : (h ++ g)[n]? = some c := by rw [List.getElem?_append_left (List.getElem?_eq_some_iff.mp e).1]; exact e
theorem get_new {h : MH} {c : Cell} : (h ++ [c])[h.length]? = some c := by simp
theorem dct_at {ks : List Key} {vs : List MV} (e : h[n]? = some (.ct (.dK ks vs))) : dctOf (.v (.ref n)) h = some (ks, vs) := by simp [dctOf, e]
theorem seq_dct {ks : List Key} {vs : List MV} (e : h[n]? = some (.ct (.dK ks vs))) : seqOf (.v (.ref n)) h = none := by simp [seqOf, e]
/-- k in d -/
theorem in_dct {ks : List Key} {vs : List MV} {v : MV} {k : Key} (e : h[n]? = some (.ct (.dK ks vs))) (ek : keyOf v = some k) : inEv (.v v) (.v (.ref n)) h = some (findK ks vs k).isSome := by
  unfold inEv inDS
  simp only [dct_at e, keyD, ek, Option.map_some]
/-- d[k] -/
theorem x_dctR {ks : List Key} {vs : List MV} {v y : MV} {k : Key} {Q : MV → MH → Prop} (e : h[n]? = some (.ct (.dK ks vs))) (ek : keyOf y = some k) (f : findK ks vs k = some v) (q : Q v h) : (evIx (.v (.ref n)) (.v y) h).Post Q E :=
  x_dct (seq_dct e) (dct_at e) (by simp only [keyD, ek, Option.bind_some, f]) q
theorem len_dct {ks : List Key} {vs : List MV} (e : h[n]? = some (.ct (.dK ks vs))) : lenOf (.v (.ref n)) h = some ks.length := by
  unfold lenOf
  simp only [seq_dct e, ct_at e]
theorem len_lst {xs : List MV} (e : h[n]? = some (.ct (.lst xs))) : lenOf (.v (.ref n)) h = some xs.length := by
  unfold lenOf
  simp only [seq_ref e]
theorem p_listD {a : Ex} {Q : Ct → MH → Prop} (q : (den T call a σ h).Post (fun x h1 => ∃ ks vs, ctOf x h1 = some (.dK ks vs) ∧ Q (.lst (ks.map keyMV)) h1) E) : (denF T call (.listD a) σ h).Post Q E := by
  unfold denF; simp only [post_bind]
  refine Post.imp q (fun x h1 z => ?_) fun _ _ z => z
  obtain ⟨ks, vs, e1, z⟩ := z
  rw [e1]; exact z
theorem refAt_of {r : Res EV} (e : r = .ok (.v (.ref n)) h) : refAt r h = some n := by
  subst e; unfold refAt; simp only [if_true]
theorem ownAt_of {r : Res EV} {x : MV} {F : String} (e : r = .ok (.v x) h) (e1 : clsOf x "__iter__" h = some c) (e2 : T.iter c = some F) (e3 : fldOf T x F h = .ok (.v (.ref n)) h) : ownAt T r h = some n := by
  subst e; unfold ownAt; simp only [if_true, e1, Option.bind_some, e2]
  exact refAt_of e3
theorem fldOf_R {v : MV} (e : h[n]? = some (.ins c fs)) (tf : T.fld c f = true) (g : getF fs f = some (.val v)) : fldOf T (.ref n) f h = .ok (.v v) h := by
  unfold fldOf
  simp only [e, tf, g, if_true]
/-- [e for x in d], by its invariant -/
theorem p_compK {x : Tg} {d : Dw} {cc : Exo} {ee : Ex} {ks : List Key} {vs : List MV} {Q : Ct → MH → Prop} (e1 : denK T call d σ h = some n) (e2 : h[n]? = some (.ct (.dK ks vs))) (e3 : denK T call d σ (h.set n (.lk (.dK ks vs))) = some n)
    (q : (compL (denC T call cc) (fun σ h => (den T call ee σ h).vl) x none (itemsK d.its ks vs) (wipeM σ x.own) (itemsK d.its ks vs) [] (h.set n (.lk (.dK ks vs)))).Post (fun xs h2 => h2[n]? = some (.lk (.dK ks vs)) ∧ Q (.lst xs) (h2.set n (.ct (.dK ks vs)))) E) :
    (denF T call (.compK x d cc ee) σ h).Post Q E := by
  unfold denF
  simp only [e1, e2, e3, if_true]
  unfold unlF
  rw [post_bind]
  refine Post.imp q (fun xs h2 z => ?_) fun _ _ z => z
  rw [if_pos z.1]; exact z.2
theorem s_forK {x : Tg} {d : Dw} {b : Sxs} {ks : List Key} {vs : List MV} (e1 : denK T call d σ h = some n) (e2 : h[n]? = some (.ct (.dK ks vs))) (e3 : denK T call d σ (h.set n (.lk (.dK ks vs))) = some n)
    (q : (forL x none (itemsK d.its ks vs) (execs T call W b) (itemsK d.its ks vs) σ (h.set n (.lk (.dK ks vs)))).P { nx := fun σ h => h[n]? = some (.lk (.dK ks vs)) ∧ K.nx σ (h.set n (.ct (.dK ks vs))), rt := fun v h => h[n]? = some (.lk (.dK ks vs)) ∧ K.rt v (h.set n (.ct (.dK ks vs))) }) :
    (exec T call W (.forK x d b) σ h).P K := by
  unfold exec
  simp only [e1, e2, e3, if_true]
  cases er : forL x none (itemsK d.its ks vs) (execs T call W b) (itemsK d.its ks vs) σ (h.set n (.lk (.dK ks vs))) with
  | nx σ1 h1 => rw [er] at q; simp only [unlS]; rw [if_pos q.1]; exact q.2
  | rt v h1 => rw [er] at q; simp only [unlS]; rw [if_pos q.1]; exact q.2
  | bk σ1 h1 => rw [er] at q; exact q.elim
  | ct σ1 h1 => rw [er] at q; exact q.elim
  | exc c σ1 h1 => rw [er] at q; exact q.elim
  | bad => rw [er] at q; exact q.elim
end
end MP
set_option Elab.async false
set_option linter.all false
set_option autoImplicit false
set_option maxRecDepth 100000
set_option maxHeartbeats 4000000
namespace MP
open PySem PySem.Spec L2
/-- all that stood is as it was -/
def Grow (h h' : MH) : Prop := h.length ≤ h'.length ∧ ∀ b, b < h.length → h'[b]? = h[b]?
theorem Grow.refl {h : MH} : Grow h h := ⟨Nat.le_refl _, fun _ _ => rfl⟩
theorem Grow.app {h : MH} {g : MH} : Grow h (h ++ g) := ⟨by simp, fun b hb => List.getElem?_append_left hb⟩
theorem Grow.trans {h h' h'' : MH} (a : Grow h h') (b : Grow h' h'') : Grow h h'' := ⟨Nat.le_trans a.1 b.1, fun x hx => (b.2 x (Nat.lt_of_lt_of_le hx a.1)).trans (a.2 x hx)⟩
theorem Grow.set {h h' : MH} (a : Grow h h') {n : Nat} {c : Cell} (hn : h.length ≤ n) : Grow h (h'.set n c) := ⟨by simpa using a.1, fun b hb => by rw [List.getElem?_set_ne (by omega)]; exact a.2 b hb⟩
theorem Grow.at {h h' : MH} (a : Grow h h') {n : Nat} {c : Cell} (e : h[n]? = some c) : h'[n]? = some c := (a.2 n (List.getElem?_eq_some_iff.mp e).1).trans e
theorem at_of {ms : List MV} {i : Nat} {v : MV} (h : ms[i]? = some v) : atI ms (i : Int) = some v := by
  have hl := (List.getElem?_eq_some_iff.mp h).1
  have h0 : (0 : Int) ≤ (i : Int) := by omega
  have h1 : (i : Int) < (ms.length : Int) := by omega
  unfold atI ixN
  rw [if_pos h0, if_pos h1]
  exact h
theorem set_back {h : MH} {m : Nat} {c d : Cell} (e : h[m]? = some c) : (h.set m d).set m c = h := by
  rw [List.set_set]
  apply List.ext_getElem?
  intro i
  by_cases hi : m = i
  · subst hi
    rw [List.getElem?_set_self (List.getElem?_eq_some_iff.mp e).1, e]
  · rw [List.getElem?_set_ne hi]
/-- not None -/
def isL (v : MV) : Bool := match v with | .non => false | _ => true
theorem o_isL {v : MV} {h : MH} {Q : MV → MH → Prop} {E : Nat → MH → Prop} (q : Q (.bl (!isL v)) h) : (ev2 .is (.v v) (.v .non) h).Post Q E := by
  cases v <;> exact q
theorem o_isntL {v : MV} {h : MH} {Q : MV → MH → Prop} {E : Nat → MH → Prop} (q : Q (.bl (isL v)) h) : (ev2 .isnot (.v v) (.v .non) h).Post Q E := by
  cases v <;> exact q
theorem range_drop' {a : Int} {L j : Nat} {v : MV} {r : List MV} (e : v :: r = (rangeL a L).drop j) : v = .int (a + j) ∧ j < L ∧ r = (rangeL a L).drop (j + 1) := by
  have hj : j < L := by
    have := congrArg List.length e
    simp [rangeL] at this
    omega
  have h1 : (rangeL a L)[j]? = some v := by
    have : ((rangeL a L).drop j)[0]? = some v := by rw [← e]; rfl
    simpa using this
  refine ⟨?_, hj, by rw [← List.tail_drop, ← e]; rfl⟩
  simp [rangeL, hj] at h1
  exact h1.symm
theorem range_end {a : Int} {L j : Nat} (e : [] = (rangeL a L).drop j) : L ≤ j := by
  have := congrArg List.length e
  simp [rangeL] at this
  omega
theorem ch_grow {r : Nat} {h h0 h' : MH} (c : Ch r h0 h') (g : Grow h h0) (hr : h.length ≤ r) : Grow h h' := ⟨by rw [c.len]; exact g.1, fun b hb => (c.oth b (by omega)).trans (g.2 b hb)⟩
end MP
set_option Elab.async false
set_option linter.all false
set_option autoImplicit false
set_option maxRecDepth 100000
set_option maxHeartbeats 4000000
namespace K67
open PySem PySem.Spec L2 MP
local macro_rules | `(tactic| kby_none) => `(tactic| with_reducible first
  | refine s_one ?_ | refine s_cons ?_ | refine s_nil ?_ | refine s_ite ?_ | refine s_ret ?_ | refine s_set ?_ | refine s_exp ?_ | refine s_setIx ?_ | refine s_setOwn ?_ | refine s_unp ?_ | refine s_for ?_ | refine s_mut ?_
  | refine p_op ?_ | refine p_int ?_ | refine p_str ?_ | refine p_gl ?_ | refine p_bl ?_ | refine p_non ?_ | refine p_call ?_ | refine p_dens1 ?_ | refine p_dens0 ?_ | refine p_denE1 ?_ | refine p_denE0 ?_
  | refine p_ix ?_ | refine p_and ?_ | refine p_or ?_ | refine p_and1 ?_ | refine p_or1 ?_ | refine p_and2 ?_ | refine p_or2 ?_ | refine p_not ?_ | refine p_neg ?_ | refine p_chain ?_ | refine p_bi ?_ | refine p_tup ?_
  | refine p_sl ?_ | refine p_denO0 ?_ | refine p_denO1 ?_ | refine p_fzL ?_ | refine p_cl ?_ | refine p_lst ?_ | refine p_cat ?_ | refine p_list ?_ | refine p_comp ?_ | refine p_over ?_ | refine p_range1 ?_ | refine p_text ?_ | refine p_zip ?_ | refine p_dnew ?_ | refine p_denC0 ?_ | refine p_denC1 ?_
  | refine asV_v ?_ | refine isB_bl ?_ | refine ex_int ?_ | refine ex_bl ?_ ?_ | refine ex_bl' ?_ ?_ | refine ex_str ?_ | refine ex_tup ?_ | refine ex_zip ?_ | refine mut_own ?_ | refine bth_of ?_ ?_ | refine setTo_w1 ?_ | refine p_vl ?_ | refine setTo_0 ?_ | refine setTo_s ?_ | refine setsTo_0 ?_ | refine setsTo_s ?_ | refine asg_var ?_ | refine asg_tup ?_
  | refine imp_tt ?_ | refine imp_ff ?_ | exact imp_tf | exact imp_ft
  | refine o_add ?_ | refine o_sub ?_ | refine o_lt ?_ | refine o_le ?_ | refine o_gt ?_ | refine o_ge ?_ | refine o_eqI ?_ | refine o_neI ?_ | refine o_isB ?_ | refine o_isntB ?_ | refine o_lts ?_ | refine o_gts ?_
  | refine o_pow6 ?_ | refine o_pow9 ?_ | refine o_pow18 ?_ | refine o_pow30 ?_ | refine b_int ?_ | refine b_max ?_ | refine b_min ?_ | refine b_tupT ?_ | refine l_tup ?_ | refine x_tup0 ?_)
local macro_rules | `(tactic| k_ne) => `(tactic| first
  | ((with_reducible refine g_var ?_); first | refine p_var rfl ?_ | refine p_varO rfl ?_)
  | ((with_reducible first | refine isi_tup ?_ ?_ | refine isi_str ?_ ?_ | refine isi_int ?_ ?_ | refine isi_bool ?_ ?_ | refine isi_lst ?_ ?_); focus first | exact rfl | exact gd_dk (by assumption))
  | ((with_reducible first | refine o_eqS ?_ ?_ ?_ | refine o_neS ?_ ?_ ?_); (focus first | exact flatD_lit _ | exact gd_flat (by assumption)); (focus first | exact flatD_lit _ | exact gd_flat (by assumption)))
  | ((with_reducible refine g_len ?_); refine b_len rfl ?_)
  | (with_reducible first | refine x_cell (by assumption) ?_ | refine x_cell (get_set (by assumption)) ?_ | refine st_ref (by assumption) ?_)
  | ((with_reducible refine g_isO ?_); refine isO_of rfl ?_)
  | ((with_reducible refine g_ixt ?_); refine x_tup rfl ?_)
  | ((with_reducible refine g_btup ?_); refine b_tup rfl ?_)
  | ((with_reducible refine g_ix ?_); refine x_seq rfl rfl ?_)
  | ((with_reducible refine g_bord ?_); refine b_ord rfl ?_)
  | ((with_reducible refine cnd_of ?_ ?_); focus (simp only [List.length_cons, List.length_nil, List.length_append]; decide))
  | ((with_reducible refine g_frz ?_); first | refine s_freezeL rfl ?_ | refine s_freezeD rfl ?_)
  | ((with_reducible refine app_own ?_ ?_); focus (simp only [List.length_cons, List.length_nil, List.length_append]; decide))
  | ((with_reducible refine ex_rng ?_ ?_); focus omega)
  | ((with_reducible refine putPl_loc ?_ ?_); focus exact rfl)
  | ((with_reducible refine o_addt ?_ ?_); focus (simp only [List.length_cons, List.length_nil]; decide))
  | ((with_reducible first | refine o_mul ?_ ?_ | refine o_mod ?_ ?_ | refine o_fdiv ?_ ?_); focus omega)
  | ((with_reducible intro hk); first | (cases hk; done) | (simp [MP.kTup, MP.kStr, MP.kBl, MP.kIn, MP.kLs] at hk; done) | skip))
local macro_rules | `(tactic| k_all) => `(tactic| repeat' (first | kby_none | k_ne))
theorem find_none {ks : List Key} {vs : List MV} {k : Key} (h : k ∉ ks) : findK ks vs k = none := by
  induction ks generalizing vs with
  | nil => cases vs <;> rfl
  | cons j ks ih =>
    cases vs with
    | nil => rfl
    | cons v vs =>
      have h1 : j ≠ k := fun e => h (e ▸ List.mem_cons_self)
      simp only [findK, h1, if_false]
      exact ih fun z => h (List.mem_cons_of_mem _ z)
/-! ### the network -/
/-- the numbers that are there, from k on -/
def lvK : Int → List MV → List Key
  | _, [] => []
  | k, v :: vs => if isL v then .inl k :: lvK (k + 1) vs else lvK (k + 1) vs
theorem lvK_len : ∀ (k : Int) (ms : List MV), (lvK k ms).length = (ms.filter isL).length
  | _, [] => rfl
  | k, v :: vs => by
    have := lvK_len (k + 1) vs
    by_cases h : isL v = true <;> simp [lvK, h, this]
theorem lvK_le (k : Int) (ms : List MV) : (lvK k ms).length ≤ ms.length := by rw [lvK_len]; exact List.length_filter_le ..
theorem lvK_mem : ∀ {k : Int} {ms : List MV} {i : Int}, (Sum.inl i : Key) ∈ lvK k ms → k ≤ i ∧ i < k + ms.length
  | k, [], i, h => by cases h
  | k, v :: vs, i, h => by
    have ih := fun h => @lvK_mem (k + 1) vs i h
    simp only [List.length_cons]
    by_cases hv : isL v = true
    · simp only [lvK, hv, if_true, List.mem_cons] at h
      rcases h with h | h
      · cases h; omega
      · have := ih h; omega
    · simp only [lvK, hv] at h
      have := ih h; omega
theorem find_lv : ∀ {k : Int} {ms : List MV} {i : Nat}, findK (lvK k ms) (ms.filter isL) (.inl (k + i)) = (ms[i]?).bind fun v => if isL v then some v else none
  | k, [], i => by simp [lvK, findK]
  | k, v :: vs, 0 => by
    by_cases hv : isL v = true
    · simp [lvK, hv, findK]
    · have e : (Sum.inl k : Key) ∉ lvK (k + 1) vs := fun h => by have := lvK_mem h; omega
      simp [lvK, hv, find_none e]
  | k, v :: vs, i + 1 => by
    have ih := @find_lv (k + 1) vs i
    have e : (k : Int) + ((i + 1 : Nat) : Int) = k + 1 + (i : Int) := by omega
    rw [e]
    by_cases hv : isL v = true
    · have hne : ¬ ((Sum.inl k : Key) = .inl (k + 1 + (i : Int))) := fun z => by injection z with z; omega
      simp only [lvK, hv, if_true, List.filter_cons_of_pos hv, findK, hne, if_false, ih, List.getElem?_cons_succ]
    · have hv' : ¬ isL v = true := hv
      have e1 : lvK k (v :: vs) = lvK (k + 1) vs := by simp [lvK, hv]
      rw [e1, List.filter_cons_of_neg hv', ih, List.getElem?_cons_succ]
theorem lvK_app : ∀ (k : Int) (ms : List MV) (v : MV), isL v = true → lvK k (ms ++ [v]) = lvK k ms ++ [.inl (k + ms.length)]
  | k, [], v, h => by simp [lvK, h]
  | k, w :: ms, v, h => by
    have ih := lvK_app (k + 1) ms v h
    have e : (k : Int) + 1 + (ms.length : Int) = k + ((ms.length + 1 : Nat) : Int) := by omega
    by_cases hw : isL w = true <;> simp [lvK, hw, ih, e]
theorem dropK2_ne {k j : Key} {v : MV} {ks : List Key} {vs : List MV} (h : j ≠ k) : dropK2 k (j :: ks) (v :: vs) = (j :: (dropK2 k ks vs).1, v :: (dropK2 k ks vs).2) := by
  simp [dropK2, h]
theorem dropK2_no {k : Key} {ks : List Key} {vs : List MV} (hl : ks.length = vs.length) (h : k ∉ ks) : dropK2 k ks vs = (ks, vs) := by
  have hall : ∀ j ∈ ks, j ≠ k := fun j hj z => h (z ▸ hj)
  have e1 : ks.filter (fun j => decide (j ≠ k)) = ks := List.filter_eq_self.mpr fun j hj => decide_eq_true (hall j hj)
  have e2 : (ks.zip vs).filter (fun p => decide (p.1 ≠ k)) = ks.zip vs := List.filter_eq_self.mpr fun p hp => decide_eq_true (hall _ (List.of_mem_zip hp).1)
  have e3 : (ks.zip vs).map (fun p => p.2) = vs := List.map_snd_zip (Nat.le_of_eq hl.symm)
  unfold dropK2
  rw [e1, e2, e3]
theorem dropK2_eq {k : Key} {v : MV} {ks : List Key} {vs : List MV} (hl : ks.length = vs.length) (h : k ∉ ks) : dropK2 k (k :: ks) (v :: vs) = (ks, vs) := by
  have := dropK2_no hl h
  rw [← this]
  simp [dropK2]
/-- a number is taken out -/
theorem lvK_drop : ∀ (k : Int) (ms : List MV) (i : Nat), (dropK2 (.inl (k + i)) (lvK k ms) (ms.filter isL)) = (lvK k (ms.set i .non), (ms.set i .non).filter isL)
  | k, [], i => by simp [lvK, dropK2]
  | k, v :: ms, 0 => by
    have hn : ¬ isL MV.non = true := by decide
    have hno : (Sum.inl k : Key) ∉ lvK (k + 1) ms := fun z => by have := lvK_mem z; omega
    have e0 : k + ((0 : Nat) : Int) = k := by omega
    rw [e0, List.set_cons_zero, List.filter_cons_of_neg hn]
    have e2 : lvK k (.non :: ms) = lvK (k + 1) ms := rfl
    rw [e2]
    by_cases hv : isL v = true
    · have e1 : lvK k (v :: ms) = .inl k :: lvK (k + 1) ms := by simp [lvK, hv]
      rw [e1, List.filter_cons_of_pos hv, dropK2_eq (lvK_len _ _) hno]
    · have e1 : lvK k (v :: ms) = lvK (k + 1) ms := by simp [lvK, hv]
      rw [e1, List.filter_cons_of_neg hv, dropK2_no (lvK_len _ _) hno]
  | k, v :: ms, i + 1 => by
    have ih := lvK_drop (k + 1) ms i
    have e0 : k + ((i + 1 : Nat) : Int) = k + 1 + (i : Int) := by omega
    have hne : (Sum.inl k : Key) ≠ .inl (k + 1 + (i : Int)) := fun z => by injection z with z; omega
    rw [e0, List.set_cons_succ]
    by_cases hv : isL v = true
    · have e1 : ∀ ms, lvK k (v :: ms) = .inl k :: lvK (k + 1) ms := fun ms => by simp [lvK, hv]
      rw [e1, e1, List.filter_cons_of_pos hv, List.filter_cons_of_pos hv, dropK2_ne hne, ih]
    · have e1 : ∀ ms, lvK k (v :: ms) = lvK (k + 1) ms := fun ms => by simp [lvK, hv]
      rw [e1, e1, List.filter_cons_of_neg hv, List.filter_cons_of_neg hv, ih]
/-- the message of a number -/
def got (ms : List MV) (i : Int) : Option MV := if 1 ≤ i then (ms[(i - 1).toNat]?).bind fun v => if isL v then some v else none else none
theorem find_got {ms : List MV} {i : Int} : findK (lvK 1 ms) (ms.filter isL) (.inl i) = got ms i := by
  unfold got
  by_cases h : 1 ≤ i
  · have := @find_lv 1 ms (i - 1).toNat
    have e : (1 : Int) + ((i - 1).toNat : Int) = i := by omega
    rw [e] at this
    rw [if_pos h, this]
  · rw [if_neg h]
    exact find_none fun z => h (lvK_mem z).1
/-- the network of these messages stands at n; .non for a dropped one -/
def Nw (h : MH) (n m : Nat) (ms : List MV) : Prop := h[n]? = some (.ins 3 [("sent", .val (.int ms.length)), ("_messages", .val (.ref m))]) ∧ h[m]? = some (.ct (.dK (lvK 1 ms) (ms.filter isL)))
theorem t_sent : T.fld 3 "sent" = true := by decide +kernel
theorem t_msgs : T.fld 3 "_messages" = true := by decide +kernel
section
variable {W n : Nat} {h : MH} {a m : Nat} {ms : List MV} {Q : MV → MH → Prop} {E : Nat → MH → Prop}
/-- Network.__init__ -/
theorem w26 (e : h[a]? = some (.ins 3 [])) (q : ∀ h', Nw h' a h.length [] → h'.length = h.length + 1 → (∀ b, b ≠ a → b < h.length → h'[b]? = h[b]?) → Q .non h') : (callF T W fns (n + 1) 26 [.ref a] h).Post Q E := by
  refine p_callF rfl rfl rfl ?_
  show SO.P (execs _ _ _ f26.df.body [.val (.ref a)] h) _
  unfold f26
  dsimp only
  have ha : a < h.length := (List.getElem?_eq_some_iff.mp e).1
  refine s_cons (s_setFld ?_)
  k_all
  refine s_setFd e t_sent (by decide) ?_
  refine s_one (s_setFld ?_)
  k_all
  refine s_setFd (c := 3) (fs := [("sent", .val (.int 0))]) (get_app (get_set e)) t_msgs (by decide) ?_
  simp only [List.length_set]
  refine q _ ⟨?_, ?_⟩ (by simp) fun b hb hl => ?_
  · exact get_set (get_app (get_set e))
  · refine get_ne (by omega) ?_
    have : (h.set a (Cell.ins 3 (putFd "sent" (Fd.val (MV.int 0)) []))).length = h.length := by simp
    rw [← this]
    exact get_new
  · rw [List.getElem?_set_ne (Ne.symm hb), List.getElem?_append_left (by simpa using hl), List.getElem?_set_ne (Ne.symm hb)]
/-- what a change of the network leaves -/
def Off (h h' : MH) (n m : Nat) : Prop := h'.length = h.length ∧ ∀ b, b ≠ n → b ≠ m → h'[b]? = h[b]?
/-- Network.send -/
theorem w27 {v : MV} (N : Nw h a m ms) (g : gd v = true) (hl : ms.length < 1000) (q : if isMsg v then ∀ h', Nw h' a m (ms ++ [v]) → Off h h' a m → Q (.int ((ms ++ [v]).length : Nat)) h' else E 1 h) : (callF T W fns (n + 6) 27 [.ref a, v] h).Post Q E := by
  obtain ⟨e1, e2⟩ := N
  have hne : a ≠ m := fun z => by rw [z, e2] at e1; cases e1
  refine p_callF rfl rfl rfl ?_
  show SO.P (execs _ _ _ f27.df.body [.val (.ref a), .val v] h) _
  unfold f27
  dsimp only
  k_all
  refine w7 g ?_
  k_all
  · rename_i hm
    rw [if_neg (by simpa using hm)] at q
    exact s_raise q
  · rename_i hm
    have hm : isMsg v = true := by simpa using hm
    rw [if_pos hm] at q
    refine s_augFld ?_
    k_all
    refine isO_of (flat_at e1 t_sent rfl rfl) ?_
    k_all
    refine ⟨cls_at e1, s_setFd e1 t_sent (by simp) ?_⟩
    have f1 : (h.set a (.ins 3 (putFd "sent" (.val (.int ((ms.length : Int) + 1))) [("sent", .val (.int ms.length)), ("_messages", .val (.ref m))])))[a]? = some (.ins 3 [("sent", .val (.int ((ms.length : Int) + 1))), ("_messages", .val (.ref m))]) := get_set e1
    have f2 : (h.set a (.ins 3 (putFd "sent" (.val (.int ((ms.length : Int) + 1))) [("sent", .val (.int ms.length)), ("_messages", .val (.ref m))])))[m]? = some (.ct (.dK (lvK 1 ms) (ms.filter isL))) := get_ne (Ne.symm hne) e2
    k_all
    refine p_fld ?_
    k_all
    refine p_fldR f1 t_msgs rfl ?_
    refine p_fld ?_
    k_all
    refine p_fldR f1 t_sent rfl ?_
    k_all
    have hk : (Sum.inl ((ms.length : Int) + 1) : Key) ∉ lvK 1 ms := fun z => by have := (lvK_mem z).2; omega
    have hv : isL v = true := by cases v <;> first | rfl | cases hm
    refine isO_of (v := .dK (lvK 1 (ms ++ [v])) ((ms ++ [v]).filter isL)) ?_ ?_
    · rw [ct_at f2]
      have hs : (lvK 1 ms).length < sizeLine := by have := lvK_le 1 ms; have : sizeLine = 16777216 := rfl; omega
      have ef : [v].filter isL = [v] := by simp [hv]
      have e1 : (1 : Int) + (ms.length : Int) = (ms.length : Int) + 1 := by omega
      simp only [Option.bind_some, setCt, keyOf, hs, if_true, putK2, hk, if_false, lvK_app 1 ms v hv, List.filter_append, ef, e1]
    · refine put_at f2 ?_
      k_all
      refine p_fld ?_
      k_all
      refine p_fldR (get_ne hne f1) t_sent rfl ?_
      k_all
      have e3 : ((ms.length : Int) + 1) = (((ms ++ [v]).length : Nat) : Int) := by simp
      refine Eq.mpr (congrArg (fun x => Q x _) (congrArg MV.int e3)) (q _ ⟨?_, get_set f2⟩ ⟨by simp, fun b hb hb2 => ?_⟩)
      · refine get_ne hne ?_
        rw [f1, e3]
      · rw [List.getElem?_set_ne (Ne.symm hb2), List.getElem?_set_ne (Ne.symm hb)]
/-- Network.message -/
theorem w28 {i : Int} (N : Nw h a m ms) (q : match got ms i with
    | some v => Q v h
    | none => E 2 h) : (callF T W fns (n + 1) 28 [.ref a, .int i] h).Post Q E := by
  obtain ⟨e1, e2⟩ := N
  refine p_callF rfl rfl rfl ?_
  show SO.P (execs _ _ _ f28.df.body [.val (.ref a), .val (.int i)] h) _
  unfold f28
  dsimp only
  k_all
  refine p_fld ?_
  k_all
  refine p_fldR e1 t_msgs rfl ?_
  refine o_notin (in_dct e2 (k := .inl i) rfl) ?_
  have f := @find_got ms i
  revert q
  cases g : got ms i with
  | none =>
    intro q
    rw [f, g]
    k_all
    exact s_raise q
  | some v =>
    intro q
    rw [g] at f
    rw [f]
    k_all
    refine p_fld ?_
    k_all
    refine p_fldR e1 t_msgs rfl ?_
    k_all
    refine x_dctR e2 (k := .inl i) rfl f ?_
    k_all
    exact q
/-- Network.drop -/
theorem w29 {i : Int} (N : Nw h a m ms) (q : match got ms i with
    | some v => ∀ h', Nw h' a m (ms.set (i - 1).toNat .non) → Off h h' a m → Q .non h'
    | none => E 2 h) : (callF T W fns (n + 1) 29 [.ref a, .int i] h).Post Q E := by
  obtain ⟨e1, e2⟩ := N
  have hne : a ≠ m := fun z => by rw [z, e2] at e1; cases e1
  refine p_callF rfl rfl rfl ?_
  show SO.P (execs _ _ _ f29.df.body [.val (.ref a), .val (.int i)] h) _
  unfold f29
  dsimp only
  k_all
  refine p_fld ?_
  k_all
  refine p_fldR e1 t_msgs rfl ?_
  refine o_notin (in_dct e2 (k := .inl i) rfl) ?_
  have f := @find_got ms i
  revert q
  cases g : got ms i with
  | none =>
    intro q
    rw [f, g]
    k_all
    exact s_raise q
  | some v =>
    intro q
    rw [g] at f
    rw [f]
    k_all
    refine s_delIx ?_
    refine p_fld ?_
    k_all
    refine p_fldR e1 t_msgs rfl ?_
    k_all
    have hi : 1 ≤ i := by
      unfold got at g
      by_cases h : 1 ≤ i
      · exact h
      · rw [if_neg h] at g; cases g
    have d := lvK_drop 1 ms (i - 1).toNat
    have e : (1 : Int) + ((i - 1).toNat : Int) = i := by omega
    rw [e] at d
    refine isO_of (v := .dK (lvK 1 (ms.set (i - 1).toNat .non)) ((ms.set (i - 1).toNat .non).filter isL)) ?_ ?_
    · rw [ct_at e2]
      simp only [Option.bind_some, delCt, keyOf, f, Option.map_some, d]
    · refine put_at e2 ?_
      refine q _ ⟨?_, get_set e2⟩ ⟨by simp, fun b hb hb2 => ?_⟩
      · rw [List.length_set]
        exact get_ne hne e1
      · rw [List.getElem?_set_ne (Ne.symm hb2)]
/-- the numbers, as values -/
def numsV (ms : List MV) : List MV := (lvK 1 ms).map keyMV
/-- Network.numbers -/
theorem w30 (N : Nw h a m ms) (q : Q (.ref h.length) (h ++ [.ct (.lst (numsV ms))])) : (callF T W fns (n + 1) 30 [.ref a] h).Post Q E := by
  obtain ⟨e1, e2⟩ := N
  refine p_callF rfl rfl rfl ?_
  show SO.P (execs _ _ _ f30.df.body [.val (.ref a)] h) _
  unfold f30
  dsimp only
  k_all
  refine p_listD ?_
  refine p_fld ?_
  k_all
  refine p_fldR e1 t_msgs rfl ?_
  refine ⟨_, _, ct_at e2, ?_⟩
  k_all
  exact q
/-- Network.__len__ -/
theorem w31 (N : Nw h a m ms) (q : Q (.int ((lvK 1 ms).length : Nat)) h) : (callF T W fns (n + 1) 31 [.ref a] h).Post Q E := by
  obtain ⟨e1, e2⟩ := N
  refine p_callF rfl rfl rfl ?_
  show SO.P (execs _ _ _ f31.df.body [.val (.ref a)] h) _
  unfold f31
  dsimp only
  k_all
  refine p_fld ?_
  k_all
  refine p_fldR e1 t_msgs rfl ?_
  k_all
  refine b_len (len_dct e2) ?_
  k_all
  exact q
end
end K67
set_option Elab.async false
set_option linter.all false
set_option autoImplicit false
set_option maxRecDepth 100000
set_option maxHeartbeats 4000000
namespace K67
open PySem PySem.Spec L2 MP
local macro_rules | `(tactic| kby_none) => `(tactic| with_reducible first
  | refine s_one ?_ | refine s_cons ?_ | refine s_nil ?_ | refine s_ite ?_ | refine s_ret ?_ | refine s_set ?_ | refine s_exp ?_ | refine s_setIx ?_ | refine s_setOwn ?_ | refine s_unp ?_ | refine s_for ?_ | refine s_mut ?_
  | refine p_op ?_ | refine p_int ?_ | refine p_str ?_ | refine p_gl ?_ | refine p_bl ?_ | refine p_non ?_ | refine p_call ?_ | refine p_dens1 ?_ | refine p_dens0 ?_ | refine p_denE1 ?_ | refine p_denE0 ?_
  | refine p_ix ?_ | refine p_and ?_ | refine p_or ?_ | refine p_and1 ?_ | refine p_or1 ?_ | refine p_and2 ?_ | refine p_or2 ?_ | refine p_not ?_ | refine p_neg ?_ | refine p_chain ?_ | refine p_bi ?_ | refine p_tup ?_
  | refine p_sl ?_ | refine p_denO0 ?_ | refine p_denO1 ?_ | refine p_fzL ?_ | refine p_cl ?_ | refine p_lst ?_ | refine p_cat ?_ | refine p_list ?_ | refine p_comp ?_ | refine p_over ?_ | refine p_range1 ?_ | refine p_text ?_ | refine p_zip ?_ | refine p_dnew ?_ | refine p_denC0 ?_ | refine p_denC1 ?_
  | refine asV_v ?_ | refine isB_bl ?_ | refine ex_int ?_ | refine ex_bl ?_ ?_ | refine ex_bl' ?_ ?_ | refine ex_str ?_ | refine ex_tup ?_ | refine ex_zip ?_ | refine mut_own ?_ | refine bth_of ?_ ?_ | refine setTo_w1 ?_ | refine p_vl ?_ | refine setTo_0 ?_ | refine setTo_s ?_ | refine setsTo_0 ?_ | refine setsTo_s ?_ | refine asg_var ?_ | refine asg_tup ?_
  | refine imp_tt ?_ | refine imp_ff ?_ | exact imp_tf | exact imp_ft
  | refine o_add ?_ | refine o_sub ?_ | refine o_lt ?_ | refine o_le ?_ | refine o_gt ?_ | refine o_ge ?_ | refine o_eqI ?_ | refine o_neI ?_ | refine o_isB ?_ | refine o_isntB ?_ | refine o_lts ?_ | refine o_gts ?_
  | refine o_pow6 ?_ | refine o_pow9 ?_ | refine o_pow18 ?_ | refine o_pow30 ?_ | refine b_int ?_ | refine b_max ?_ | refine b_min ?_ | refine b_tupT ?_ | refine l_tup ?_ | refine x_tup0 ?_)
local macro_rules | `(tactic| k_ne) => `(tactic| first
  | ((with_reducible refine g_var ?_); first | refine p_var rfl ?_ | refine p_varO rfl ?_)
  | ((with_reducible first | refine isi_tup ?_ ?_ | refine isi_str ?_ ?_ | refine isi_int ?_ ?_ | refine isi_bool ?_ ?_ | refine isi_lst ?_ ?_); focus first | exact rfl | exact gd_dk (by assumption))
  | ((with_reducible first | refine o_eqS ?_ ?_ ?_ | refine o_neS ?_ ?_ ?_); (focus first | exact flatD_lit _ | exact gd_flat (by assumption)); (focus first | exact flatD_lit _ | exact gd_flat (by assumption)))
  | ((with_reducible refine g_len ?_); refine b_len rfl ?_)
  | (with_reducible first | refine x_cell (by assumption) ?_ | refine x_cell (get_set (by assumption)) ?_ | refine st_ref (by assumption) ?_)
  | ((with_reducible refine g_isO ?_); refine isO_of rfl ?_)
  | ((with_reducible refine g_ixt ?_); refine x_tup rfl ?_)
  | ((with_reducible refine g_btup ?_); refine b_tup rfl ?_)
  | ((with_reducible refine g_ix ?_); refine x_seq rfl rfl ?_)
  | ((with_reducible refine g_bord ?_); refine b_ord rfl ?_)
  | ((with_reducible refine cnd_of ?_ ?_); focus (simp only [List.length_cons, List.length_nil, List.length_append]; decide))
  | ((with_reducible refine g_frz ?_); first | refine s_freezeL rfl ?_ | refine s_freezeD rfl ?_)
  | ((with_reducible refine app_own ?_ ?_); focus (simp only [List.length_cons, List.length_nil, List.length_append]; decide))
  | ((with_reducible refine ex_rng ?_ ?_); focus omega)
  | ((with_reducible refine putPl_loc ?_ ?_); focus exact rfl)
  | ((with_reducible refine o_addt ?_ ?_); focus (simp only [List.length_cons, List.length_nil]; decide))
  | ((with_reducible first | refine o_mul ?_ ?_ | refine o_mod ?_ ?_ | refine o_fdiv ?_ ?_); focus omega)
  | ((with_reducible intro hk); first | (cases hk; done) | (simp [MP.kTup, MP.kStr, MP.kBl, MP.kIn, MP.kLs] at hk; done) | skip))
local macro_rules | `(tactic| k_all) => `(tactic| repeat' (first | kby_none | k_ne))
theorem t_iter : T.iter 3 = some "_messages" := by decide +kernel
theorem m_send : T.meth 3 "send" = some 27 := by decide +kernel
theorem m_msg : T.meth 3 "message" = some 28 := by decide +kernel
theorem m_drop : T.meth 3 "drop" = some 29 := by decide +kernel
theorem m_nums : T.meth 3 "numbers" = some 30 := by decide +kernel
theorem m_len : T.meth 3 "__len__" = some 31 := by decide +kernel
theorem x_11 : T.exs 1 1 = some true := by decide +kernel
theorem x_22 : T.exs 2 2 = some true := by decide +kernel
/-- a method of the network -/
theorem nw_meth {h : MH} {a m : Nat} {ms : List MV} {x : String} {k : Nat} (N : Nw h a m ms) (hx : x ≠ "sent") (hy : x ≠ "_messages") (t : T.meth 3 x = some k) : ((clsOf (.ref a) x h).bind fun c => T.meth c x) = some k := by
  obtain ⟨e1, e2⟩ := N
  refine meth_at e1 ?_ t
  have h1 : (x == "sent") = false := by simpa using hx
  have h2 : (x == "_messages") = false := by simpa using hy
  simp [getF, List.lookup, h1, h2]
section
variable {W n : Nat} {h : MH} {a m p : Nat} {ms : List MV} {Q : MV → MH → Prop} {E : Nat → MH → Prop}
/-- _law_is -/
theorem w17 {i j : Int} (q : Q (.bl (decide (i = j))) h) : (callF T W fns (n + 1) 17 [.int i, .int j] h).Post Q E := by
  refine p_callF rfl rfl rfl ?_
  show SO.P (execs _ _ _ f17.df.body [.val (.int i), .val (.int j)] h) _
  unfold f17
  dsimp only
  k_all
  exact q
theorem w17t {i j : Int} (e : i = j) (q : Q (.bl true) h) : (callF T W fns (n + 1) 17 [.int i, .int j] h).Post Q E := w17 (by rw [decide_eq_true e]; exact q)
theorem w18i {i : Int} (q : Q (.bl true) h) : (callF T W fns (n + 1) 18 [.int i, .int i] h).Post Q E := by
  refine p_callF rfl rfl rfl ?_
  show SO.P (execs _ _ _ f18.df.body [.val (.int i), .val (.int i), .un] h) _
  unfold f18
  dsimp only
  k_all
  exact qb q (by simp)
/-- _law_equal, of a row of numbers -/
theorem w18n {xs : List MV} (hx : ∀ x ∈ xs, ∃ i, x = .int i) (hl : xs.length < 1000) (q : Q (.bl true) h) : (callF T W fns (n + 2) 18 [.tup xs, .tup xs] h).Post Q E := by
  refine p_callF rfl rfl rfl ?_
  show SO.P (execs _ _ _ f18.df.body [.val (.tup xs), .val (.tup xs), .un] h) _
  unfold f18
  dsimp only
  k_all
  refine s_forI (fun rs sg h' => h' = h ∧ ∃ (j : Nat) (c : LV), rs = (rangeL 0 xs.length).drop j ∧ sg = [.val (.tup xs), .val (.tup xs), c]) _ (fun x rs sg h' i => ?_) (fun sg h' i => ?_) _ _ ⟨rfl, 0, _, rfl, rfl⟩
  · obtain ⟨rfl, j, c, ej, rfl⟩ := i
    obtain ⟨rfl, hj, rfl⟩ := range_drop ej
    obtain ⟨v, hv⟩ : ∃ v, xs[j]? = some v := ⟨_, List.getElem?_eq_getElem hj⟩
    obtain ⟨i, rfl⟩ := hx v (List.mem_of_getElem? hv)
    k_all
    refine x_tup (at_of hv) ?_
    k_all
    refine x_tup (at_of hv) ?_
    k_all
    refine w18i ?_
    k_all
    exact ⟨rfl, rfl, j + 1, _, rfl, rfl⟩
  · obtain ⟨rfl, j, c, ej, rfl⟩ := i
    k_all
    exact q
/-- _law_dropped -/
theorem w20 {i : Int} (N : Nw h a m ms) (q : match got ms i with
    | some v => ∀ h', Nw h' a m (ms.set (i - 1).toNat .non) → Off h h' a m → Q (.str (Str.ofString "dropped")) h'
    | none => Q (.str (Str.ofString "unknown")) h) : (callF T W fns (n + 2) 20 [.ref a, .int i] h).Post Q E := by
  refine p_callF rfl rfl rfl ?_
  show SO.P (execs _ _ _ f20.df.body [.val (.ref a), .val (.int i)] h) _
  unfold f20
  dsimp only
  k_all
  refine s_try ?_
  k_all
  refine p_meth ?_
  k_all
  refine isO_of (nw_meth N (by decide) (by decide) m_drop) ?_
  k_all
  refine w29 N ?_
  revert q
  cases g : got ms i with
  | none =>
    intro q
    dsimp only
    refine s_hdY x_22 ?_
    k_all
    exact q
  | some v =>
    intro q h' N' O
    k_all
    refine o_isntL ?_
    k_all
    exact q h' N' O
/-- _law_asked -/
theorem w21 {i : Int} (N : Nw h a m ms) (q : match got ms i with
    | some v => Q v h
    | none => Q .non h) : (callF T W fns (n + 2) 21 [.ref a, .int i] h).Post Q E := by
  refine p_callF rfl rfl rfl ?_
  show SO.P (execs _ _ _ f21.df.body [.val (.ref a), .val (.int i)] h) _
  unfold f21
  dsimp only
  k_all
  refine s_try ?_
  k_all
  refine p_meth ?_
  k_all
  refine isO_of (nw_meth N (by decide) (by decide) m_msg) ?_
  k_all
  refine w28 N ?_
  revert q
  cases g : got ms i with
  | none =>
    intro q
    dsimp only
    refine s_hdY x_22 ?_
    k_all
    exact q
  | some v =>
    intro q
    k_all
    exact q
/-- _law_refused -/
theorem w22 (N : Nw h a m ms) (hl : ms.length < 1000) (q : Q (.bl true) h) : (callF T W fns (n + 7) 22 [.ref a] h).Post Q E := by
  refine p_callF rfl rfl rfl ?_
  show SO.P (execs _ _ _ f22.df.body [.val (.ref a)] h) _
  unfold f22
  dsimp only
  k_all
  refine s_try ?_
  k_all
  refine p_meth ?_
  k_all
  refine isO_of (nw_meth N (by decide) (by decide) m_send) ?_
  k_all
  refine w27 N (by decide +kernel) hl ?_
  rw [if_neg (by decide +kernel)]
  dsimp only
  refine s_hdY x_11 ?_
  k_all
  exact q
end
end K67
set_option Elab.async false
set_option linter.all false
set_option autoImplicit false
set_option maxRecDepth 100000
set_option maxHeartbeats 4000000
namespace K67
open PySem PySem.Spec L2 MP
local macro_rules | `(tactic| kby_none) => `(tactic| with_reducible first
  | refine s_one ?_ | refine s_cons ?_ | refine s_nil ?_ | refine s_ite ?_ | refine s_ret ?_ | refine s_set ?_ | refine s_exp ?_ | refine s_setIx ?_ | refine s_setOwn ?_ | refine s_unp ?_ | refine s_for ?_ | refine s_mut ?_
  | refine p_op ?_ | refine p_int ?_ | refine p_str ?_ | refine p_gl ?_ | refine p_bl ?_ | refine p_non ?_ | refine p_call ?_ | refine p_dens1 ?_ | refine p_dens0 ?_ | refine p_denE1 ?_ | refine p_denE0 ?_
  | refine p_ix ?_ | refine p_and ?_ | refine p_or ?_ | refine p_and1 ?_ | refine p_or1 ?_ | refine p_and2 ?_ | refine p_or2 ?_ | refine p_not ?_ | refine p_neg ?_ | refine p_chain ?_ | refine p_bi ?_ | refine p_tup ?_
  | refine p_sl ?_ | refine p_denO0 ?_ | refine p_denO1 ?_ | refine p_fzL ?_ | refine p_cl ?_ | refine p_lst ?_ | refine p_cat ?_ | refine p_list ?_ | refine p_comp ?_ | refine p_over ?_ | refine p_range1 ?_ | refine p_text ?_ | refine p_zip ?_ | refine p_dnew ?_ | refine p_denC0 ?_ | refine p_denC1 ?_
  | refine asV_v ?_ | refine isB_bl ?_ | refine ex_int ?_ | refine ex_bl ?_ ?_ | refine ex_bl' ?_ ?_ | refine ex_str ?_ | refine ex_tup ?_ | refine ex_zip ?_ | refine mut_own ?_ | refine bth_of ?_ ?_ | refine setTo_w1 ?_ | refine p_vl ?_ | refine setTo_0 ?_ | refine setTo_s ?_ | refine setsTo_0 ?_ | refine setsTo_s ?_ | refine asg_var ?_ | refine asg_tup ?_
  | refine imp_tt ?_ | refine imp_ff ?_ | exact imp_tf | exact imp_ft
  | refine o_add ?_ | refine o_sub ?_ | refine o_lt ?_ | refine o_le ?_ | refine o_gt ?_ | refine o_ge ?_ | refine o_eqI ?_ | refine o_neI ?_ | refine o_isB ?_ | refine o_isntB ?_ | refine o_lts ?_ | refine o_gts ?_
  | refine o_pow6 ?_ | refine o_pow9 ?_ | refine o_pow18 ?_ | refine o_pow30 ?_ | refine b_int ?_ | refine b_max ?_ | refine b_min ?_ | refine b_tupT ?_ | refine l_tup ?_ | refine x_tup0 ?_)
local macro_rules | `(tactic| k_ne) => `(tactic| first
  | ((with_reducible refine g_var ?_); first | refine p_var rfl ?_ | refine p_varO rfl ?_)
  | ((with_reducible first | refine isi_tup ?_ ?_ | refine isi_str ?_ ?_ | refine isi_int ?_ ?_ | refine isi_bool ?_ ?_ | refine isi_lst ?_ ?_); focus first | exact rfl | exact gd_dk (by assumption))
  | ((with_reducible first | refine o_eqS ?_ ?_ ?_ | refine o_neS ?_ ?_ ?_); (focus first | exact flatD_lit _ | exact gd_flat (by assumption)); (focus first | exact flatD_lit _ | exact gd_flat (by assumption)))
  | ((with_reducible refine g_len ?_); refine b_len rfl ?_)
  | (with_reducible first | refine x_cell (by assumption) ?_ | refine x_cell (get_set (by assumption)) ?_ | refine st_ref (by assumption) ?_)
  | ((with_reducible refine g_isO ?_); refine isO_of rfl ?_)
  | ((with_reducible refine g_ixt ?_); refine x_tup rfl ?_)
  | ((with_reducible refine g_btup ?_); refine b_tup rfl ?_)
  | ((with_reducible refine g_ix ?_); refine x_seq rfl rfl ?_)
  | ((with_reducible refine g_bord ?_); refine b_ord rfl ?_)
  | ((with_reducible refine cnd_of ?_ ?_); focus (simp only [List.length_cons, List.length_nil, List.length_append]; decide))
  | ((with_reducible refine g_frz ?_); first | refine s_freezeL rfl ?_ | refine s_freezeD rfl ?_)
  | ((with_reducible refine app_own ?_ ?_); focus (simp only [List.length_cons, List.length_nil, List.length_append]; decide))
  | ((with_reducible refine ex_rng ?_ ?_); focus omega)
  | ((with_reducible refine putPl_loc ?_ ?_); focus exact rfl)
  | ((with_reducible refine o_addt ?_ ?_); focus (simp only [List.length_cons, List.length_nil]; decide))
  | ((with_reducible first | refine o_mul ?_ ?_ | refine o_mod ?_ ?_ | refine o_fdiv ?_ ?_); focus omega)
  | ((with_reducible intro hk); first | (cases hk; done) | (simp [MP.kTup, MP.kStr, MP.kBl, MP.kIn, MP.kLs] at hk; done) | skip))
local macro_rules | `(tactic| k_all) => `(tactic| repeat' (first | kby_none | k_ne))
theorem Nw.grow {h h' : MH} {a m : Nat} {ms : List MV} (N : Nw h a m ms) (g : Grow h h') : Nw h' a m ms := by
  obtain ⟨e1, e2⟩ := N
  exact ⟨g.at e1, g.at e2⟩
theorem lvK_no : ∀ (k : Int) (ms : List MV) (v : MV), isL v = false → lvK k (ms ++ [v]) = lvK k ms
  | k, [], v, h => by simp [lvK, h]
  | k, w :: ms, v, h => by
    have ih := lvK_no (k + 1) ms v h
    by_cases hw : isL w = true <;> simp [lvK, hw, ih]
theorem numsV_len (ms : List MV) : (numsV ms).length = (lvK 1 ms).length := by simp [numsV]
theorem numsV_le (ms : List MV) : (numsV ms).length ≤ ms.length := by rw [numsV_len]; exact lvK_le 1 ms
theorem numsV_int {ms : List MV} : ∀ x ∈ numsV ms, ∃ i, x = .int i := by
  have : ∀ (k : Int) (ms : List MV), ∀ x ∈ (lvK k ms).map keyMV, ∃ i, x = .int i := by
    intro k ms
    induction ms generalizing k with
    | nil => intro x hx; cases hx
    | cons v vs ih =>
      intro x hx
      by_cases hv : isL v = true
      · simp only [lvK, hv, if_true, List.map_cons, List.mem_cons] at hx
        rcases hx with rfl | hx
        · exact ⟨_, rfl⟩
        · exact ih _ x hx
      · simp only [lvK, hv] at hx
        exact ih _ x hx
  exact this 1 ms
theorem take_succ {ms : List MV} {j : Nat} {v : MV} (e : ms[j]? = some v) : ms.take (j + 1) = ms.take j ++ [v] := by
  rw [List.take_succ, e]; rfl
theorem numsV_app {ms : List MV} {v : MV} (h : isL v = true) : numsV (ms ++ [v]) = numsV ms ++ [.int (1 + (ms.length : Int))] := by
  unfold numsV
  rw [lvK_app 1 ms v h, List.map_append]
  rfl
theorem numsV_no {ms : List MV} {v : MV} (h : isL v = false) : numsV (ms ++ [v]) = numsV ms := by
  unfold numsV
  rw [lvK_no 1 ms v h]
/-- a message, or None for one that was dropped -/
def MsgN (v : MV) : Prop := v = .non ∨ Msg v
theorem MsgN.gq {v : MV} (h : MsgN v) : MP.gq 8 v = true := by
  rcases h with rfl | h
  · exact gq_non
  · exact h.gq
theorem got_at {ms : List MV} {i : Nat} {v : MV} (e : ms[i]? = some v) : got ms ((i : Int) + 1) = if isL v then some v else none := by
  unfold got
  have h1 : (1 : Int) ≤ (i : Int) + 1 := by omega
  have h2 : (((i : Int) + 1) - 1).toNat = i := by omega
  rw [if_pos h1, h2, e]
  rfl
section
variable {W n : Nat} {h : MH} {a m p : Nat} {ms : List MV} {Q : MV → MH → Prop} {E : Nat → MH → Prop}
theorem w21v {i : Nat} {v : MV} (N : Nw h a m ms) (e : ms[i]? = some v) (q : Q v h) : (callF T W fns (n + 2) 21 [.ref a, .int ((i : Int) + 1)] h).Post Q E := by
  refine w21 N ?_
  rw [got_at e]
  by_cases hv : isL v = true
  · rw [if_pos hv]; exact q
  · rw [if_neg hv]
    cases v <;> first | exact q | exact absurd rfl hv
theorem w21n {i : Int} (N : Nw h a m ms) (c : ¬ (1 ≤ i ∧ i ≤ ms.length)) (q : Q .non h) : (callF T W fns (n + 2) 21 [.ref a, .int i] h).Post Q E := by
  refine w21 N ?_
  have : got ms i = none := by
    unfold got
    by_cases h : 1 ≤ i
    · have : ms[(i - 1).toNat]? = none := List.getElem?_eq_none (by omega)
      rw [if_pos h, this]; rfl
    · rw [if_neg h]
  rw [this]
  exact q
/-- _law_holds -/
theorem w23 (N : Nw h a m ms) (ep : h[p]? = some (.ct (.lst ms))) (hm : ∀ v ∈ ms, MsgN v) (hl : ms.length < 1000) (q : ∀ h', Grow h h' → Q (.bl true) h') : (callF T W fns (n + 4) 23 [.ref a, .ref p] h).Post Q E := by
  refine p_callF rfl rfl rfl ?_
  show SO.P (execs _ _ _ f23.df.body [.val (.ref a), .val (.ref p), .un, .un, .un] h) _
  unfold f23
  dsimp only
  k_all
  refine p_range2 ?_
  k_all
  refine b_len (len_lst ep) ?_
  k_all
  refine ⟨1, _, rfl, rfl, by omega, ?_⟩
  have e0 : ((ms.length : Int) + 1 - 1).toNat = ms.length := by omega
  rw [e0]
  refine p_compI (fun rs acc h' => h' = h ∧ ∃ j, rs = (rangeL 1 ms.length).drop j ∧ acc = numsV (ms.take j) ∧ j ≤ ms.length) _ (fun x rs acc h' i => ?_) (fun acc h' i => ?_) _ _ ⟨rfl, 0, rfl, rfl, Nat.zero_le _⟩
  · obtain ⟨rfl, j, ej, rfl, hj2⟩ := i
    obtain ⟨rfl, hj, rfl⟩ := range_drop' ej
    obtain ⟨v, hv⟩ : ∃ v, ms[j]? = some v := ⟨_, List.getElem?_eq_getElem hj⟩
    have e2 : (1 : Int) + (j : Int) - 1 = (j : Int) := by omega
    have et := take_succ hv
    have lt : (ms.take j).length = j := by rw [List.length_take]; omega
    have ln : (numsV (ms.take j)).length < sizeLine := Nat.lt_of_le_of_lt (numsV_le _) (by have : sizeLine = 16777216 := rfl; omega)
    k_all
    rw [e2]
    refine isO_of (at_of hv) ?_
    k_all
    refine o_isntL ?_
    cases hv2 : isL v with
    | true =>
      k_all
      refine ⟨ln, rfl, rfl, j + 1, rfl, ?_, hj⟩
      rw [et, numsV_app hv2, lt]
    | false =>
      k_all
      refine ⟨rfl, rfl, j + 1, rfl, ?_, hj⟩
      rw [et, numsV_no hv2]
  · obtain ⟨rfl, j, ej, rfl, hj2⟩ := i
    have hj := range_end ej
    rw [List.take_of_length_le hj]
    have N0 := N
    obtain ⟨e1, e2⟩ := N0
    k_all
    refine p_fld ?_
    k_all
    refine p_fldR e1 t_sent rfl ?_
    k_all
    refine b_len (len_lst ep) ?_
    k_all
    refine w17t rfl ?_
    k_all
    refine p_lenO ?_
    k_all
    refine isO_of (nw_meth N (by decide) (by decide) m_len) ?_
    refine w31 N ?_
    have ll := numsV_le ms
    rw [← numsV_len ms]
    refine ⟨_, rfl, by omega, ?_⟩
    k_all
    refine p_meth ?_
    k_all
    refine isO_of (nw_meth N (by decide) (by decide) m_nums) ?_
    k_all
    refine w30 N ?_
    k_all
    refine b_tup (seq_ref get_new) ?_
    have G2 : Grow h' (h' ++ [.ct (.lst (numsV ms))]) := Grow.app
    generalize h' ++ [Cell.ct (Ct.lst (numsV ms))] = h2 at *
    have N2 := N.grow G2
    k_all
    refine w18n numsV_int (by omega) ?_
    k_all
    refine p_meth ?_
    k_all
    refine isO_of (nw_meth N2 (by decide) (by decide) m_nums) ?_
    k_all
    refine w30 N2 ?_
    k_all
    have et : (h2 ++ [Cell.ct (Ct.lst (numsV ms))])[h2.length]? = some (.ct (.lst (numsV ms))) := get_new
    have G3 : Grow h' (h2 ++ [.ct (.lst (numsV ms))]) := G2.trans Grow.app
    generalize h2 ++ [Cell.ct (Ct.lst (numsV ms))] = h3 at *
    refine b_isT (b := true) (by simp [kindOf, et, isTy, kindTy, tyIs]) ?_
    have N3 := N.grow G3
    have ep3 := G3.at ep
    k_all
    have f1 := G3.at e1
    have f2 := G3.at e2
    have ham : a ≠ m := fun z => by rw [z, e2] at e1; cases e1
    have kat : ∀ {σ : ML} {g : MH}, σ[0]? = some (.val (.ref a)) → g[a]? = some (.ins 3 [("sent", .val (.int ms.length)), ("_messages", .val (.ref m))]) → denK T (callF T W fns (n + 3)) (.own (.var 0)) σ g = some m := fun {σ g} es eg => by
      unfold denK
      refine ownAt_of (x := .ref a) (c := 3) (F := "_messages") ?_ (cls_of eg rfl) t_iter (fldOf_R eg t_msgs rfl)
      unfold den
      rw [es]
    refine p_compK (ks := lvK 1 ms) (vs := ms.filter isL) (kat rfl f1) f2 (kat rfl (get_ne ham f1)) ?_
    refine p_compI (fun rs acc h' => h' = h3.set m (.lk (.dK (lvK 1 ms) (ms.filter isL))) ∧ numsV ms = acc ++ rs) _ (fun x rs acc h' i => ?_) (fun acc h' i => ?_) _ _ ⟨rfl, ?_⟩
    · obtain ⟨rfl, e⟩ := i
      k_all
      refine ⟨?_, rfl, rfl, by rw [e]; simp⟩
      have := congrArg List.length e
      rw [List.length_append] at this
      have : sizeLine = 16777216 := rfl
      omega
    · obtain ⟨rfl, e⟩ := i
      rw [List.append_nil] at e
      subst e
      refine ⟨get_set f2, ?_⟩
      rw [set_back f2]
      k_all
      refine w18n numsV_int (by omega) ?_
      k_all
      refine b_len (len_lst ep3) ?_
      k_all
      have el : ((ms.length : Int) + 2).toNat = ms.length + 2 := by omega
      rw [el]
      refine s_forI (fun rs sg h' => h' = h3 ∧ ∃ (j : Nat) (c d : LV), rs = (rangeL 0 (ms.length + 2)).drop j ∧ sg = [.val (.ref a), .val (.ref p), .val (.lst (numsV ms)), c, d]) _ (fun x rs sg h' i => ?_) (fun sg h' i => ?_) _ _ ⟨rfl, 0, _, _, rfl, rfl⟩
      · obtain ⟨rfl, j, c, d, ej, rfl⟩ := i
        obtain ⟨rfl, hj, rfl⟩ := range_drop ej
        k_all
        refine b_len (len_lst ep3) ?_
        k_all
        · rename_i k1 k2
          have k1 := of_decide_eq_true k1
          have k2 := of_decide_eq_true k2
          obtain ⟨i, rfl⟩ : ∃ i, j = i + 1 := ⟨j - 1, by omega⟩
          obtain ⟨v, hv⟩ : ∃ v, ms[i]? = some v := ⟨_, List.getElem?_eq_getElem (by omega)⟩
          have gv := (hm v (List.mem_of_getElem? hv)).gq
          have eb : ((i + 1 : Nat) : Int) = (i : Int) + 1 := by omega
          have ea : (i : Int) + 1 - 1 = (i : Int) := by omega
          rw [eb, ea]
          refine isO_of (at_of hv) ?_
          k_all
          refine w21v N3 hv ?_
          k_all
          refine o_neG gv gv (by decide) (by decide) ?_
          rw [eqM_refl (gq_pd gv)]
          k_all
          exact ⟨rfl, rfl, i + 1 + 1, _, _, rfl, rfl⟩
        · rename_i k1 k2
          have k2 := of_decide_eq_false k2
          refine w21n N3 (by omega) ?_
          k_all
          refine o_neG (k := 1) (m := 1) gq_non gq_non (by decide) (by decide) ?_
          rw [eqM_refl (gq_pd (k := 1) gq_non)]
          k_all
          exact ⟨rfl, rfl, j + 1, _, _, rfl, rfl⟩
        · rename_i k1
          have k1 := of_decide_eq_false k1
          refine w21n N3 (by omega) ?_
          k_all
          refine o_neG (k := 1) (m := 1) gq_non gq_non (by decide) (by decide) ?_
          rw [eqM_refl (gq_pd (k := 1) gq_non)]
          k_all
          exact ⟨rfl, rfl, j + 1, _, _, rfl, rfl⟩
      · obtain ⟨rfl, j, c, d, ej, rfl⟩ := i
        k_all
        exact q _ G3
    · rfl
end
end K67
set_option Elab.async false
set_option linter.all false
set_option autoImplicit false
set_option maxRecDepth 100000
set_option maxHeartbeats 4000000
namespace K67
open PySem PySem.Spec L2 MP
local macro_rules | `(tactic| kby_none) => `(tactic| with_reducible first
  | refine s_one ?_ | refine s_cons ?_ | refine s_nil ?_ | refine s_ite ?_ | refine s_ret ?_ | refine s_set ?_ | refine s_exp ?_ | refine s_setIx ?_ | refine s_setOwn ?_ | refine s_unp ?_ | refine s_for ?_ | refine s_mut ?_
  | refine p_op ?_ | refine p_int ?_ | refine p_str ?_ | refine p_gl ?_ | refine p_bl ?_ | refine p_non ?_ | refine p_call ?_ | refine p_dens1 ?_ | refine p_dens0 ?_ | refine p_denE1 ?_ | refine p_denE0 ?_
  | refine p_ix ?_ | refine p_and ?_ | refine p_or ?_ | refine p_and1 ?_ | refine p_or1 ?_ | refine p_and2 ?_ | refine p_or2 ?_ | refine p_not ?_ | refine p_neg ?_ | refine p_chain ?_ | refine p_bi ?_ | refine p_tup ?_
  | refine p_sl ?_ | refine p_denO0 ?_ | refine p_denO1 ?_ | refine p_fzL ?_ | refine p_cl ?_ | refine p_lst ?_ | refine p_cat ?_ | refine p_list ?_ | refine p_comp ?_ | refine p_over ?_ | refine p_range1 ?_ | refine p_text ?_ | refine p_zip ?_ | refine p_dnew ?_ | refine p_denC0 ?_ | refine p_denC1 ?_
  | refine asV_v ?_ | refine isB_bl ?_ | refine ex_int ?_ | refine ex_bl ?_ ?_ | refine ex_bl' ?_ ?_ | refine ex_str ?_ | refine ex_tup ?_ | refine ex_zip ?_ | refine mut_own ?_ | refine bth_of ?_ ?_ | refine setTo_w1 ?_ | refine p_vl ?_ | refine setTo_0 ?_ | refine setTo_s ?_ | refine setsTo_0 ?_ | refine setsTo_s ?_ | refine asg_var ?_ | refine asg_tup ?_
  | refine imp_tt ?_ | refine imp_ff ?_ | exact imp_tf | exact imp_ft
  | refine o_add ?_ | refine o_sub ?_ | refine o_lt ?_ | refine o_le ?_ | refine o_gt ?_ | refine o_ge ?_ | refine o_eqI ?_ | refine o_neI ?_ | refine o_isB ?_ | refine o_isntB ?_ | refine o_lts ?_ | refine o_gts ?_
  | refine o_pow6 ?_ | refine o_pow9 ?_ | refine o_pow18 ?_ | refine o_pow30 ?_ | refine b_int ?_ | refine b_max ?_ | refine b_min ?_ | refine b_tupT ?_ | refine l_tup ?_ | refine x_tup0 ?_)
local macro_rules | `(tactic| k_ne) => `(tactic| first
  | ((with_reducible refine g_var ?_); first | refine p_var rfl ?_ | refine p_varO rfl ?_)
  | ((with_reducible first | refine isi_tup ?_ ?_ | refine isi_str ?_ ?_ | refine isi_int ?_ ?_ | refine isi_bool ?_ ?_ | refine isi_lst ?_ ?_); focus first | exact rfl | exact gd_dk (by assumption))
  | ((with_reducible first | refine o_eqS ?_ ?_ ?_ | refine o_neS ?_ ?_ ?_); (focus first | exact flatD_lit _ | exact gd_flat (by assumption)); (focus first | exact flatD_lit _ | exact gd_flat (by assumption)))
  | ((with_reducible refine g_len ?_); refine b_len rfl ?_)
  | (with_reducible first | refine x_cell (by assumption) ?_ | refine x_cell (get_set (by assumption)) ?_ | refine st_ref (by assumption) ?_)
  | ((with_reducible refine g_isO ?_); refine isO_of rfl ?_)
  | ((with_reducible refine g_ixt ?_); refine x_tup rfl ?_)
  | ((with_reducible refine g_btup ?_); refine b_tup rfl ?_)
  | ((with_reducible refine g_ix ?_); refine x_seq rfl rfl ?_)
  | ((with_reducible refine g_bord ?_); refine b_ord rfl ?_)
  | ((with_reducible refine cnd_of ?_ ?_); focus (simp only [List.length_cons, List.length_nil, List.length_append]; decide))
  | ((with_reducible refine g_frz ?_); first | refine s_freezeL rfl ?_ | refine s_freezeD rfl ?_)
  | ((with_reducible refine app_own ?_ ?_); focus (simp only [List.length_cons, List.length_nil, List.length_append]; decide))
  | ((with_reducible refine ex_rng ?_ ?_); focus omega)
  | ((with_reducible refine putPl_loc ?_ ?_); focus exact rfl)
  | ((with_reducible refine o_addt ?_ ?_); focus (simp only [List.length_cons, List.length_nil]; decide))
  | ((with_reducible first | refine o_mul ?_ ?_ | refine o_mod ?_ ?_ | refine o_fdiv ?_ ?_); focus omega)
  | ((with_reducible intro hk); first | (cases hk; done) | (simp [MP.kTup, MP.kStr, MP.kBl, MP.kIn, MP.kLs] at hk; done) | skip))
local macro_rules | `(tactic| k_all) => `(tactic| repeat' (first | kby_none | k_ne))
/-- a network and the row of its messages -/
structure Inv (h : MH) (a m p : Nat) (ms : List MV) : Prop where
  nw : Nw h a m ms
  ct : h[p]? = some (.ct (.lst ms))
  ms : ∀ v ∈ ms, MsgN v
  mp : m ≠ p
theorem Inv.ap {h : MH} {a m p : Nat} {ms : List MV} (I : Inv h a m p ms) : a ≠ p := by
  rintro rfl
  have e1 := I.nw.1
  rw [I.ct] at e1
  cases e1
/-- what a step leaves -/
def Fr (h h' : MH) (a m p r : Nat) : Prop := h'.length = h.length ∧ ∀ b, b ≠ a → b ≠ m → b ≠ p → b ≠ r → h'[b]? = h[b]?
theorem fr_ch {h h' : MH} {a m p r : Nat} (c : Ch r h h') : Fr h h' a m p r := ⟨c.len, fun b _ _ _ hr => c.oth b hr⟩
theorem st_ne {h : MH} {a m p r : Nat} {ms : List MV} (st : St h r) (I : Inv h a m p ms) : a ≠ r ∧ m ≠ r := by
  obtain ⟨d, s, e⟩ := st
  obtain ⟨e1, e2⟩ := I.nw
  constructor
  · rintro rfl; rw [e1] at e; cases e
  · rintro rfl; rw [e2] at e; cases e
theorem Inv.ch {h h' : MH} {a m p r : Nat} {ms : List MV} (I : Inv h a m p ms) (hn : a ≠ r ∧ m ≠ r ∧ r ≠ p) (c : Ch r h h') : Inv h' a m p ms :=
  ⟨⟨(c.oth _ hn.1).trans I.nw.1, (c.oth _ hn.2.1).trans I.nw.2⟩, (c.oth _ (Ne.symm hn.2.2)).trans I.ct, I.ms, I.mp⟩
section
variable {W n : Nat} {h h0 : MH} {a m p r : Nat} {ms : List MV} {Q : MV → MH → Prop} {E : Nat → MH → Prop}
/-- _law_step -/
theorem w24 (I : Inv h a m p ms) (hl : ms.length < 100) (st : St h r) (hpr : r ≠ p) (q : ∀ h' ms', Inv h' a m p ms' → ms'.length ≤ ms.length + 1 → Fr h h' a m p r → Q (.bl true) h') : (callF T W fns (n + 8) 24 [.ref a, .ref p, .ref r] h).Post Q E := by
  have hn := st_ne st I
  have hn : a ≠ r ∧ m ≠ r ∧ r ≠ p := ⟨hn.1, hn.2, hpr⟩
  have c := Ch.start st
  have c0 := c
  refine p_callF rfl rfl rfl ?_
  show SO.P (execs _ _ _ f24.df.body [.val (.ref a), .val (.ref p), .val (.ref r), .un, .un, .un, .un, .un, .un] h) _
  unfold f24
  dsimp only
  k_all
  refine w9 c (by decide) (by decide) fun z h1 z0 z1 c => ?_
  k_all
  · have I := I.ch hn c
    refine w22 I.nw (by omega) ?_
    exact q _ _ I (by omega) (fr_ch c)
  · have I1 := I.ch hn c
    refine b_len (len_lst I1.ct) ?_
    k_all
    refine w9 c (by omega) (by omega) fun z2 h2 z20 z21 c => ?_
    iterate 9 kby_none
    refine s_cut (fun sg h9 => Ch r h h9 ∧ ∃ i : Int, sg = [.val (.ref a), .val (.ref p), .val (.ref r), .val (.int z), .un, .un, .val (.int i), .un, .un]) ?_ ?_
    · k_all
      · refine w9 c (by decide) (by decide) fun z3 h3 z30 z31 c => ?_
        k_all
        · refine w9 c (by decide) (by decide) fun z4 h4 z40 z41 c => ?_
          k_all
          refine x_any (xs := [.int 0, .int (-5), .int 1000000000000000000]) rfl z40 (by simpa using z41) fun w hw => ?_
          obtain ⟨u, rfl⟩ : ∃ u, w = .int u := by
            simp only [List.mem_cons, List.not_mem_nil, or_false] at hw
            rcases hw with rfl | rfl | rfl <;> exact ⟨_, rfl⟩
          k_all
          exact ⟨c, _, rfl⟩
        · exact ⟨c, _, rfl⟩
      · exact ⟨c, _, rfl⟩
    rintro _ h3 ⟨c, i, rfl⟩
    have I3 := I.ch hn c
    k_all
    refine b_len (len_lst I3.ct) ?_
    k_all
    · rename_i k1 k2
      have k1 := of_decide_eq_true k1
      have k2 := of_decide_eq_true k2
      obtain ⟨j, rfl⟩ : ∃ j : Nat, i = (j : Int) + 1 := ⟨(i - 1).toNat, by omega⟩
      have ej : (j : Int) + 1 - 1 = (j : Int) := by omega
      obtain ⟨v, hv⟩ : ∃ v, ms[j]? = some v := ⟨_, List.getElem?_eq_getElem (by omega)⟩
      have gt := got_at hv
      rw [ej]
      refine x_cell I3.ct ?_
      refine isO_of (at_of hv) ?_
      k_all
      refine o_isntL ?_
      cases hv2 : isL v with
      | true =>
        k_all
        rw [ej]
        refine isO_of (v := .lst (ms.set j .non)) ?_ ?_
        · rw [ct_at I3.ct]
          have : ixN ms.length (j : Int) = some j := by
            unfold ixN
            rw [if_pos (by omega), if_pos (by omega)]
            simp
          simp only [Option.bind_some, setCt, this, Option.map_some]
        refine put_at I3.ct ?_
        have hap := I3.ap
        have N4 : Nw (h3.set p (.ct (.lst (ms.set j .non)))) a m ms := ⟨get_ne hap I3.nw.1, get_ne I3.mp I3.nw.2⟩
        have e4 : (h3.set p (.ct (.lst (ms.set j .non))))[p]? = some (.ct (.lst (ms.set j .non))) := get_set I3.ct
        have hl4 : (h3.set p (.ct (.lst (ms.set j .non)))).length = h3.length := by simp
        have ho4 : ∀ b, b ≠ p → (h3.set p (.ct (.lst (ms.set j .non))))[b]? = h3[b]? := fun b hb => List.getElem?_set_ne (Ne.symm hb)
        generalize h3.set p (Cell.ct (.lst (ms.set j .non))) = h4 at *
        k_all
        refine w20 N4 ?_
        rw [gt, if_pos hv2]
        intro h5 N5 O
        rw [ej] at N5
        have ej2 : ((j : Int)).toNat = j := by simp
        rw [ej2] at N5
        k_all
        refine qb (q h5 (ms.set j .non) ⟨N5, ?_, ?_, I.mp⟩ (by simp) ⟨?_, fun b h1 h2 h3 h4 => ?_⟩) (by simp)
        · rw [O.2 p (Ne.symm hap) (Ne.symm I.mp)]; exact e4
        · intro w hw
          rcases List.mem_or_eq_of_mem_set hw with hw | rfl
          · exact I.ms w hw
          · exact .inl rfl
        · rw [O.1, hl4, c.len]
        · rw [O.2 b h1 h2, ho4 b h3, c.oth b h4]
      | false =>
        k_all
        refine w20 I3.nw ?_
        rw [gt, if_neg (by rw [hv2]; decide)]
        k_all
        exact qb (q h3 ms I3 (by omega) (fr_ch c)) (by simp)
    · rename_i k1 k2
      have k2 := of_decide_eq_false k2
      have gt : got ms i = none := by
        unfold got
        by_cases h : 1 ≤ i
        · have : ms[(i - 1).toNat]? = none := List.getElem?_eq_none (by omega)
          rw [if_pos h, this]; rfl
        · rw [if_neg h]
      refine w20 I3.nw ?_
      rw [gt]
      k_all
      exact qb (q h3 ms I3 (by omega) (fr_ch c)) (by simp)
    · rename_i k1
      have k1 := of_decide_eq_false k1
      have gt : got ms i = none := by
        unfold got
        rw [if_neg k1]
      refine w20 I3.nw ?_
      rw [gt]
      k_all
      exact qb (q h3 ms I3 (by omega) (fr_ch c)) (by simp)
  · refine w19 c fun v h2 M c => ?_
    have I2 := I.ch hn c
    have cp := I2.ct
    k_all
    refine isO_of (v := (ms, some p)) (by simp [overOf, cp]) ?_
    refine p_compI (fun rs acc h' => h' = h2 ∧ ∃ j, rs = ms.drop j ∧ acc = (ms.take j).filter isL ∧ j ≤ ms.length) _ (fun x rs acc h' i => ?_) (fun acc h' i => ?_) _ _ ⟨rfl, 0, rfl, rfl, Nat.zero_le _⟩
    · obtain ⟨rfl, j, ej, rfl, hj2⟩ := i
      have hj : j < ms.length := by
        have := congrArg List.length ej
        simp at this; omega
      obtain ⟨v2, hv⟩ : ∃ v, ms[j]? = some v := ⟨_, List.getElem?_eq_getElem hj⟩
      have ed : ms.drop j = v2 :: ms.drop (j + 1) := by
        rw [List.drop_eq_getElem_cons hj]
        rw [List.getElem?_eq_getElem hj] at hv
        rw [Option.some.inj hv]
      rw [ed] at ej
      cases ej
      have et := take_succ hv
      have sl : still (some p) ms h' = true := by simp [still, cp]
      have ln : ((ms.take j).filter isL).length < sizeLine := Nat.lt_of_le_of_lt (List.length_filter_le ..) (by have : sizeLine = 16777216 := rfl; rw [List.length_take]; omega)
      k_all
      refine o_isntL ?_
      cases hv2 : isL x with
      | true =>
        k_all
        refine ⟨ln, sl, rfl, j + 1, rfl, ?_, hj⟩
        rw [et, List.filter_append]
        simp [hv2]
      | false =>
        k_all
        refine ⟨sl, rfl, j + 1, rfl, ?_, hj⟩
        rw [et, List.filter_append]
        simp [hv2]
    · obtain ⟨rfl, j, ej, rfl, hj2⟩ := i
      have hj : ms.length ≤ j := by
        have := congrArg List.length ej
        simp at this; omega
      rw [List.take_of_length_le hj]
      have hf : ∀ w ∈ ms.filter isL, Msg w := fun w hw => by
        have := List.mem_filter.mp hw
        rcases I.ms w this.1 with rfl | h
        · cases this.2
        · exact h
      have hfl : (ms.filter isL).length ≤ ms.length := List.length_filter_le ..
      iterate 7 kby_none
      refine s_freezeL rfl ?_
      iterate 6 kby_none
      refine s_cut (fun sg h9 => Ch r h h9 ∧ ∃ v, Msg v ∧ sg = [.val (.ref a), .val (.ref p), .val (.ref r), .val (.int z), .val v, .val (.lst (ms.filter isL)), .un, .un, .un]) ?_ ?_
      · k_all
        · refine isB_of (b := !(ms.filter isL).isEmpty) rfl ?_
          cases hb : (ms.filter isL).isEmpty with
          | true =>
            k_all
            exact ⟨c, _, M, rfl⟩
          | false =>
            have hne : 0 < (ms.filter isL).length := by
              cases hx : ms.filter isL with
              | nil => rw [hx] at hb; cases hb
              | cons _ _ => simp
            k_all
            refine w9 c (by omega) (by omega) fun z3 h3 z30 z31 c => ?_
            k_all
            refine x_any (xs := ms.filter isL) rfl z30 z31 fun w hw => ?_
            k_all
            exact ⟨c, _, hf w hw, rfl⟩
        · exact ⟨c, _, M, rfl⟩
      rintro _ h3 ⟨c, v, M, rfl⟩
      have I3 := I.ch hn c
      have cp3 := I3.ct
      have gv := gq_gd M.gq
      k_all
      refine ⟨_, ct_at I3.ct, ?_⟩
      k_all
      refine isO_of (v := .lst (ms ++ [v])) ?_ ?_
      · rw [ct_at I3.ct]
        have : ms.length < sizeLine := by have : sizeLine = 16777216 := rfl; omega
        simp only [Option.bind_some, mutCt, this, if_true]
      refine put_at I3.ct ?_
      have hap := I3.ap
      have N4 : Nw (h3.set p (.ct (.lst (ms ++ [v])))) a m ms := ⟨get_ne hap I3.nw.1, get_ne I3.mp I3.nw.2⟩
      have e4 : (h3.set p (.ct (.lst (ms ++ [v]))))[p]? = some (.ct (.lst (ms ++ [v]))) := get_set I3.ct
      have hl4 : (h3.set p (.ct (.lst (ms ++ [v])))).length = h3.length := by simp
      have ho4 : ∀ b, b ≠ p → (h3.set p (.ct (.lst (ms ++ [v]))))[b]? = h3[b]? := fun b hb => List.getElem?_set_ne (Ne.symm hb)
      generalize h3.set p (Cell.ct (.lst (ms ++ [v]))) = h4 at *
      k_all
      refine p_meth ?_
      k_all
      refine isO_of (nw_meth N4 (by decide) (by decide) m_send) ?_
      k_all
      refine w27 N4 gv (by omega) ?_
      rw [if_pos M.ok]
      intro h5 N5 O
      have e5 : h5[p]? = some (.ct (.lst (ms ++ [v]))) := by rw [O.2 p (Ne.symm hap) (Ne.symm I.mp)]; exact e4
      k_all
      refine b_len (len_lst e5) ?_
      k_all
      refine w17t rfl ?_
      k_all
      refine q h5 (ms ++ [v]) ⟨N5, e5, ?_, I.mp⟩ (by simp) ⟨?_, fun b h1 h2 h3 h4 => ?_⟩
      · intro w hw
        rcases List.mem_append.mp hw with hw | hw
        · exact I.ms w hw
        · simp at hw; subst hw; exact .inr M
      · rw [O.1, hl4, c.len]
      · rw [O.2 b h1 h2, ho4 b h3, c.oth b h4]
end
end K67
set_option Elab.async false
set_option linter.all false
set_option autoImplicit false
set_option maxRecDepth 100000
set_option maxHeartbeats 4000000
namespace K67
open PySem PySem.Spec L2 MP
local macro_rules | `(tactic| kby_none) => `(tactic| with_reducible first
  | refine s_one ?_ | refine s_cons ?_ | refine s_nil ?_ | refine s_ite ?_ | refine s_ret ?_ | refine s_set ?_ | refine s_exp ?_ | refine s_setIx ?_ | refine s_setOwn ?_ | refine s_unp ?_ | refine s_for ?_ | refine s_mut ?_
  | refine p_op ?_ | refine p_int ?_ | refine p_str ?_ | refine p_gl ?_ | refine p_bl ?_ | refine p_non ?_ | refine p_call ?_ | refine p_dens1 ?_ | refine p_dens0 ?_ | refine p_denE1 ?_ | refine p_denE0 ?_
  | refine p_ix ?_ | refine p_and ?_ | refine p_or ?_ | refine p_and1 ?_ | refine p_or1 ?_ | refine p_and2 ?_ | refine p_or2 ?_ | refine p_not ?_ | refine p_neg ?_ | refine p_chain ?_ | refine p_bi ?_ | refine p_tup ?_
  | refine p_sl ?_ | refine p_denO0 ?_ | refine p_denO1 ?_ | refine p_fzL ?_ | refine p_cl ?_ | refine p_lst ?_ | refine p_cat ?_ | refine p_list ?_ | refine p_comp ?_ | refine p_over ?_ | refine p_range1 ?_ | refine p_text ?_ | refine p_zip ?_ | refine p_dnew ?_ | refine p_denC0 ?_ | refine p_denC1 ?_
  | refine asV_v ?_ | refine isB_bl ?_ | refine ex_int ?_ | refine ex_bl ?_ ?_ | refine ex_bl' ?_ ?_ | refine ex_str ?_ | refine ex_tup ?_ | refine ex_zip ?_ | refine mut_own ?_ | refine bth_of ?_ ?_ | refine setTo_w1 ?_ | refine p_vl ?_ | refine setTo_0 ?_ | refine setTo_s ?_ | refine setsTo_0 ?_ | refine setsTo_s ?_ | refine asg_var ?_ | refine asg_tup ?_
  | refine imp_tt ?_ | refine imp_ff ?_ | exact imp_tf | exact imp_ft
  | refine o_add ?_ | refine o_sub ?_ | refine o_lt ?_ | refine o_le ?_ | refine o_gt ?_ | refine o_ge ?_ | refine o_eqI ?_ | refine o_neI ?_ | refine o_isB ?_ | refine o_isntB ?_ | refine o_lts ?_ | refine o_gts ?_
  | refine o_pow6 ?_ | refine o_pow9 ?_ | refine o_pow18 ?_ | refine o_pow30 ?_ | refine b_int ?_ | refine b_max ?_ | refine b_min ?_ | refine b_tupT ?_ | refine l_tup ?_ | refine x_tup0 ?_)
local macro_rules | `(tactic| k_ne) => `(tactic| first
  | ((with_reducible refine g_var ?_); first | refine p_var rfl ?_ | refine p_varO rfl ?_)
  | ((with_reducible first | refine isi_tup ?_ ?_ | refine isi_str ?_ ?_ | refine isi_int ?_ ?_ | refine isi_bool ?_ ?_ | refine isi_lst ?_ ?_); focus first | exact rfl | exact gd_dk (by assumption))
  | ((with_reducible first | refine o_eqS ?_ ?_ ?_ | refine o_neS ?_ ?_ ?_); (focus first | exact flatD_lit _ | exact gd_flat (by assumption)); (focus first | exact flatD_lit _ | exact gd_flat (by assumption)))
  | ((with_reducible refine g_len ?_); refine b_len rfl ?_)
  | (with_reducible first | refine x_cell (by assumption) ?_ | refine x_cell (get_set (by assumption)) ?_ | refine st_ref (by assumption) ?_)
  | ((with_reducible refine g_isO ?_); refine isO_of rfl ?_)
  | ((with_reducible refine g_ixt ?_); refine x_tup rfl ?_)
  | ((with_reducible refine g_btup ?_); refine b_tup rfl ?_)
  | ((with_reducible refine g_ix ?_); refine x_seq rfl rfl ?_)
  | ((with_reducible refine g_bord ?_); refine b_ord rfl ?_)
  | ((with_reducible refine cnd_of ?_ ?_); focus (simp only [List.length_cons, List.length_nil, List.length_append]; decide))
  | ((with_reducible refine g_frz ?_); first | refine s_freezeL rfl ?_ | refine s_freezeD rfl ?_)
  | ((with_reducible refine app_own ?_ ?_); focus (simp only [List.length_cons, List.length_nil, List.length_append]; decide))
  | ((with_reducible refine ex_rng ?_ ?_); focus omega)
  | ((with_reducible refine putPl_loc ?_ ?_); focus exact rfl)
  | ((with_reducible refine o_addt ?_ ?_); focus (simp only [List.length_cons, List.length_nil]; decide))
  | ((with_reducible first | refine o_mul ?_ ?_ | refine o_mod ?_ ?_ | refine o_fdiv ?_ ?_); focus omega)
  | ((with_reducible intro hk); first | (cases hk; done) | (simp [MP.kTup, MP.kStr, MP.kBl, MP.kIn, MP.kLs] at hk; done) | skip))
local macro_rules | `(tactic| k_all) => `(tactic| repeat' (first | kby_none | k_ne))
theorem Inv.other {h h' : MH} {a m p a' m' p' r : Nat} {ms ms' : List MV} (I : Inv h a m p ms) (J : Inv h a' m' p' ms') (sep : a ≠ a' ∧ m ≠ m' ∧ p ≠ p') (st : St h r) (hr : r ≠ p) (f : Fr h h' a' m' p' r) : Inv h' a m p ms := by
  obtain ⟨d, s, e⟩ := st
  obtain ⟨i1, i2⟩ := I.nw
  obtain ⟨j1, j2⟩ := J.nw
  have i3 := I.ct
  have j3 := J.ct
  refine ⟨⟨?_, ?_⟩, ?_, I.ms, I.mp⟩
  · rw [f.2 a sep.1]; exact i1
    · rintro rfl; rw [i1] at j2; cases j2
    · rintro rfl; rw [i1] at j3; cases j3
    · rintro rfl; rw [i1] at e; cases e
  · rw [f.2 m ?_ sep.2.1]; exact i2
    · rintro rfl; rw [i2] at j3; cases j3
    · rintro rfl; rw [i2] at e; cases e
    · rintro rfl; rw [i2] at j1; cases j1
  · rw [f.2 p ?_ ?_ sep.2.2 (Ne.symm hr)]; exact i3
    · rintro rfl; rw [i3] at j1; cases j1
    · rintro rfl; rw [i3] at j2; cases j2
theorem Inv.grow {h h' : MH} {a m p : Nat} {ms : List MV} (I : Inv h a m p ms) (g : Grow h h') : Inv h' a m p ms := ⟨I.nw.grow g, g.at I.ct, I.ms, I.mp⟩
/-- the two networks -/
structure Two (h : MH) (a m p a' m' p' : Nat) (ms ms' : List MV) : Prop where
  one : Inv h a m p ms
  two : Inv h a' m' p' ms'
  sep : a ≠ a' ∧ m ≠ m' ∧ p ≠ p'
theorem Two.grow {h h' : MH} {a m p a' m' p' : Nat} {ms ms' : List MV} (I : Two h a m p a' m' p' ms ms') (g : Grow h h') : Two h' a m p a' m' p' ms ms' := ⟨I.one.grow g, I.two.grow g, I.sep⟩
section
variable {W n : Nat} {h h0 : MH} {r : Nat} {Q : MV → MH → Prop} {E : Nat → MH → Prop}
/-- law -/
theorem w25 {m : Nat} (hm : m = n + 9) {ns : List Int} (hl : ns.length ≤ 63) (q : ∀ h', Q (.bl true) h') : (callF T W fns m 25 [.kl (ns.map .int)] h).Post Q E := by
  subst hm
  have hf : fns 25 = some f25.df := rfl
  have hn : [MV.kl (ns.map .int)].length = f25.df.k := rfl
  have hz : f25.df.fz = false := rfl
  have hl' : (ns.map MV.int).length ≤ 63 := by simpa using hl
  with_reducible refine p_callF hf hn hz ?_
  show SO.P (execs _ _ _ f25.df.body [.val (.kl (ns.map .int)), .un, .un, .un, .un, .un] h) _
  unfold f25
  dsimp only
  k_all
  refine p_make ?_
  k_all
  refine w26 get_new fun h1 N1 l1 o1 => ?_
  refine ⟨rfl, ?_⟩
  k_all
  refine p_make ?_
  k_all
  refine w26 get_new fun h2 N2 l2 o2 => ?_
  refine ⟨rfl, ?_⟩
  k_all
  have hm : (if 63 < ((ns.map MV.int).length : Int) then (63 : Int) else ((ns.map MV.int).length : Int)).toNat = ns.length := by
    rw [List.length_map]
    split <;> omega
  rw [hm]
  simp only [List.length_append, List.length_cons, List.length_nil] at N1 l1 o1 N2 l2 o2 ⊢
  have T0 : Two (h2 ++ [.ct (.lst [])] ++ [.ct (.lst [])]) h.length (h.length + (0 + 1)) h2.length h1.length (h1.length + (0 + 1)) (h2.length + (0 + 1)) [] [] := by
    have G : Grow h2 (h2 ++ [.ct (.lst [])] ++ [.ct (.lst [])]) := Grow.app.trans Grow.app
    refine ⟨⟨⟨G.at ?_, G.at ?_⟩, get_app get_new, fun _ h => (nomatch h), by omega⟩, ⟨N2.grow G, ?_, fun _ h => (nomatch h), by omega⟩, by omega, by omega, by omega⟩
    · rw [o2 _ (by omega) (by omega)]
      exact get_app N1.1
    · rw [o2 _ (by omega) (by omega)]
      exact get_app N1.2
    · have := @get_new (h2 ++ [.ct (.lst [])]) (.ct (.lst []))
      rwa [List.length_append] at this
  generalize h2 ++ [Cell.ct (.lst [])] ++ [Cell.ct (.lst [])] = h3 at *
  generalize h2.length + (0 + 1) = p1 at *
  generalize h2.length = p0 at *
  generalize h1.length + (0 + 1) = m1 at *
  generalize h.length + (0 + 1) = m0 at *
  clear N1 N2 l1 l2 o1 o2 hm
  generalize h1.length = a1 at *
  generalize h.length = a0 at *
  refine s_forI (fun rs sg h' => ∃ (j : Nat) (ms ms' : List MV) (b c d : LV), rs = (rangeL 0 ns.length).drop j ∧ Two h' a0 m0 p0 a1 m1 p1 ms ms' ∧ ms.length ≤ j ∧ ms'.length ≤ j ∧ j ≤ ns.length ∧ sg = [.val (.kl (ns.map .int)), .val (.lst [.ref a0, .ref a1]), .val (.lst [.ref p0, .ref p1]), b, c, d]) _ (fun x rs sg h' i => ?_) (fun sg h' i => ?_) _ _ ⟨0, _, _, _, _, _, rfl, T0, Nat.le_refl _, Nat.le_refl _, Nat.zero_le _, rfl⟩
  · obtain ⟨j, ms, ms', b1, b2, b3, ej, Z, hj2, hj3, hj4, rfl⟩ := i
    obtain ⟨rfl, hj, rfl⟩ := range_drop ej
    k_all
    refine x_any (xs := ns.map .int) rfl (by omega) (by simpa using hj) fun v hv => ?_
    obtain ⟨i, _, rfl⟩ := List.mem_map.mp hv
    k_all
    refine w8 (by omega) fun d s => ?_
    have c := Ch.start (n := h'.length) (h := h' ++ [.ct (.lst [.int d, .int s])]) ⟨d, s, get_new⟩
    have G : Grow h' (h' ++ [.ct (.lst [.int d, .int s])]) := Grow.app
    have r0 : h'.length ≠ p0 := fun z => by have := (List.getElem?_eq_some_iff.mp Z.one.ct).1; omega
    have r1 : h'.length ≠ p1 := fun z => by have := (List.getElem?_eq_some_iff.mp Z.two.ct).1; omega
    generalize h' ++ [Cell.ct (.lst [.int d, .int s])] = h4 at *
    generalize h'.length = r at *
    have c0 := c
    k_all
    refine w9 c (by decide) (by decide) fun z h5 z0 z1 c => ?_
    iterate 7 kby_none
    refine s_cut (fun sg h9 => ∃ ms ms', Two h9 a0 m0 p0 a1 m1 p1 ms ms' ∧ ms.length ≤ j + 1 ∧ ms'.length ≤ j + 1 ∧ sg = [.val (.kl (ns.map .int)), .val (.lst [.ref a0, .ref a1]), .val (.lst [.ref p0, .ref p1]), .val (.int (j : Int)), .val (.ref r), .val (.int z)]) ?_ ?_
    · have st := c.st
      have Z4 := Z.grow G
      have st4 : St h4 r := c0.st
      have n0 := st_ne st4 Z4.one
      have n1 := st_ne st4 Z4.two
      have I0 := Z4.one.ch ⟨n0.1, n0.2, r0⟩ c
      have I1 := Z4.two.ch ⟨n1.1, n1.2, r1⟩ c
      have hz : z = 0 ∨ z = 1 := by omega
      rcases hz with rfl | rfl
      · k_all
        refine w24 I0 (by omega) st r0 fun h6 mz J l F => ?_
        k_all
        exact ⟨_, _, ⟨J, I1.other I0 ⟨Ne.symm Z.sep.1, Ne.symm Z.sep.2.1, Ne.symm Z.sep.2.2⟩ st r1 F, Z.sep⟩, by omega, by omega, rfl⟩
      · k_all
        refine w24 I1 (by omega) st r1 fun h6 mz J l F => ?_
        k_all
        exact ⟨_, _, ⟨I0.other I1 Z.sep st r0 F, J, Z.sep⟩, by omega, by omega, rfl⟩
    rintro _ h6 ⟨ms, ms', Z, l0, l1, rfl⟩
    k_all
    refine w23 Z.one.nw Z.one.ct Z.one.ms (by omega) fun h7 G7 => ?_
    have Z := Z.grow G7
    k_all
    refine w23 Z.two.nw Z.two.ct Z.two.ms (by omega) fun h8 G8 => ?_
    have Z := Z.grow G8
    k_all
    exact ⟨rfl, j + 1, ms, ms', _, _, _, rfl, Z, l0, l1, hj, rfl⟩
  · obtain ⟨j, ms, ms', b1, b2, b3, ej, Z, hj2, hj3, hj4, rfl⟩ := i
    k_all
    refine w23 Z.one.nw Z.one.ct Z.one.ms (by omega) fun h7 G7 => ?_
    have Z := Z.grow G7
    k_all
    refine w23 Z.two.nw Z.two.ct Z.two.ms (by omega) fun h8 G8 => ?_
    k_all
    exact q _
end
end K67
set_option Elab.async false
set_option linter.all false
set_option autoImplicit false
set_option maxRecDepth 100000
set_option maxHeartbeats 0
namespace K67
open PySem PySem.Spec L2 MP
theorem ld_tab : ld.tab = tab := rfl
theorem post_true {r : Res MV} (p : r.Post (fun v _ => v = .bl true) fun _ _ => False) : ∃ h', r = .ok (.bl true) h' := by
  cases r with
  | ok v h => exact ⟨h, by rw [show v = .bl true from p]⟩
  | exc _ _ => exact p.elim
  | bad => exact p.elim
theorem law_true {m : Nat} (hm : m = 3 + 9) {ns : List Int} (hl : ns.length ≤ 63) : ∃ h', callF T 0 fns m 25 [.kl (ns.map .int)] [] = .ok (.bl true) h' := by
  have p := @w25 0 3 [] (fun v _ => v = .bl true) (fun _ _ => False) m hm ns hl fun _ => rfl
  exact post_true p
theorem ends {w : World} {mg : Str → Option Value} {fa : Addr} {h : Heap} (Y : hk.says w h) (N : h.Ns mainGlobals mg) (hmg : mg "law" = some (.ref fa)) :
    ∃ (G : Gb) (T : Tb) (K : Kn) (tab : Nat → Option Fi) (d' : Fi), G.K.In h ∧ Lw (PySem.Challenge.rw_appendhall_k67_whole_network_runs).prog w mg G T K tab ∧ G.fa 25 = fa ∧ tab 25 = some d' ∧ d'.N.take d'.df.k = [("_law_script" : Str)] ∧
        ∀ ns : List Int, ns.length ≤ 63 → ∃ h', callF T 0 (fnsOf tab) 12 25 [.kl (ns.map .int)] [] = .ok (.bl true) h' := by
  obtain ⟨K, KX, c⟩ := Y
  have lw : Lw (PySem.Challenge.rw_appendhall_k67_whole_network_runs).prog w mg (ld.gb K w) ld.tb ld.kn ld.tab := Ld.lw KX N c
  refine ⟨ld.gb K w, ld.tb, ld.kn, ld.tab, f25, KX, lw, ?_, rfl, rfl, fun ns hl => ?_⟩
  · have e := lw.fnm "law" 25 (by decide +kernel)
    rw [hmg] at e
    cases e
    rfl
  · exact law_true (m := 12) rfl hl
end K67
open PySem PySem.W PySem.Calls PyProof.Rows
theorem PySem.Challenge.cw_appendhall_k67_whole_network_runs_holds : PySem.Challenge.rw_appendhall_k67_whole_network_runs.Holds := by
  w_on; o_law
  refine HandSHeadRun.head_any (r := OpenLaw.row PySem.Challenge.rw_appendhall_k67_whole_network_runs) (q := view (OpenLaw.row PySem.Challenge.rw_appendhall_k67_whole_network_runs).prog [40]) (H := K67.hk) (ob := K67.ob) (M := 6000) (loose := K67.loose) (d := HandSHeadRun.topDef (OpenLaw.row PySem.Challenge.rw_appendhall_k67_whole_network_runs).prog 40) (kwd := []) K67.ob_eq
    (by kernel_rfl) (fun s => by kernel_rfl) K67.run (by kernel_rfl) (by kernel_rfl) (by kernel_rfl) (by rfl) (by first | assumption | decide +kernel) (by decide +kernel) ⟨rfl, rfl, rfl, rfl, rfl, by decide +kernel⟩ ?hw ?hc
  case hw => w_witness2
  case hc =>
    refine MP.law_end (l := PySem.Challenge.rw_appendhall_k67_whole_network_runs) (n := 63) (N := 12) (lf := 25) (Wn := 0) (x := "_law_script") rfl (by decide) (by kernel_rfl) ⟨rfl, by decide, by decide⟩ ?F
    intro w mg fa h Y G hmg0
    have hmg : mg ("law" : PySem.Str) = some (.ref fa) := by
      have e : (HandSHeadRun.topDef (OpenLaw.row PySem.Challenge.rw_appendhall_k67_whole_network_runs).prog 40).name = ("law" : PySem.Str) := by kernel_rfl
      rw [← e]
      exact hmg0
    exact K67.ends Y G hmg
