import PyProof.Rows.All
import Wide.All
import OpenK.AllK
import Wide.FinOn
import HandS.ForMost
import HandS.WordsExc
import HandS.AnyAll
import HandS.SortInts
import PyProof.GenCompD
import HandS.Nested
import HandS.Comp
import HandS.ExcIs
import HandS.ExcField
import HandS.IsInst
import HandS.ExcBuiltin
import HandS.OwnEq
import HandS.HeadHook4
import HandS.HeadWalk
import KE.KStateDown
import HandS.Head0
import HandS.Head1
import HandS.Head2
import HandS.HeadEnd
import HandS.Small
import HandS.WordsDict
import HandS.ExcInit
import HandS.ExcSuper
import HandS.FStr
import KE.KExcSuper
import KE.KSuper
import KE.KExcIs
import HandS.GenList
import HandS.Style
import PyProof.Rows.StrMul
import HandS.Rev
import HandS.Iter
import HandS.DictComp
import HandS.SetFor
import HandS.Conv
import PySem.Challenge.RW_rewoven_k28_whole_tangled_exactly
set_option Elab.async false
set_option linter.all false
set_option maxRecDepth 100000
set_option maxHeartbeats 0
namespace Vl
open PySem PySem.Spec PyProof.Rows L2

/-- a value that stands still, as a tree -/
inductive D where
  | non | bl (b : Bool) | int (i : Int) | str (x : Str) | con (n : Str) | ty (n : String)
  | tup (xs : List D) | lst (xs : List D) | ktup (xs : List D) | klst (xs : List D)
  | dK (kvs : List (Key × D)) | dT (kvs : List (List Key × D))
  | obj (c : Str) (fs : List (Str × D))
  | hole
/-- a value that is one's own: its outer parts may be changed -/
inductive T where
  | fr (d : D) | lst (xs : List D) | dK (kvs : List (Key × D)) | dT (kvs : List (List Key × D))
  | obj (c : Str) (fs : List (Str × T))
  /-- a list that stands still, its items may be one's own; a place of which nothing is known -/
  | tl (xs : List T) | hole

/-- the classes and defs of the text, by name -/
structure Vb where
  K : PySem.W.Frag
  cl : Str → Addr
  /-- the tables of the code objects -/
  tb : Addr → Prop
/-- .. and the slots that hold a caught exception -/
structure Pin where
  i : Nat
  a : Addr
  d : Option (Addr × List (Str × V) × List (Str × D))
structure Vc extends Vb where
  xs : List Pin
instance : Coe Vc Vb := ⟨Vc.toVb⟩

def strip : Option HO → Option HO
  | some (.frz _ u) => some u
  | x => x

def isTb : HO → Bool
  | .tbl _ => true
  | _ => false
/-- tracked, and no table -/
def nT (x : Option HO) : Prop := ∃ u, x = some u ∧ isTb u = false
theorem nT.ne {x : Option HO} (h : nT x) : x ≠ none := by obtain ⟨u, e, _⟩ := h; rw [e]; simp
theorem nT.of {x : Option HO} {u : HO} (h : x = some u) (k : isTb u = false := by rfl) : nT x := ⟨u, h, k⟩
def Tabs (c : Vb) (H : Hp) : Prop := ∀ P, c.tb P → GxR.TabG H P
def KL (K : PySem.W.Frag) (a : Addr) (xs : List V) : Prop :=
  ∃ (o : Obj) (its : Array Value) (n : Nat), K.lookup a = some o ∧ o.cls = .type "list" ∧ o.dict = none ∧ o.data = .seq its n ∧ its.size ≤ sizeLine ∧ Vals xs its.toList
def KTp (K : PySem.W.Frag) (a : Addr) (xs : List V) : Prop :=
  ∃ (o : Obj) (its : Array Value) (n : Nat), K.lookup a = some o ∧ o.cls = .type "tuple" ∧ o.data = .seq its n ∧ its.size ≤ sizeLine ∧ Vals xs its.toList
/-- tracked, and none of O -/
def Fz (O : Addr → Prop) (H : Hp) (a : Addr) (u : HO) : Prop := strip (H a) = some u ∧ ¬ O a

mutual
def RD (c : Vb) (O : Addr → Prop) (H : Hp) : D → V → Prop
  | .non, v => v = .non
  | .bl b, v => v = .bl b
  | .int i, v => v = .int i
  | .str x, v => v = .str x
  | .con n, v => v = .ref (c.cl n)
  | .ty n, v => v = .ty n
  | .tup xs, v => ∃ a vs, v = .ref a ∧ (H a = some (.tup vs) ∧ ¬ O a) ∧ RDs c O H xs vs
  | .lst xs, v => ∃ a vs, v = .ref a ∧ (H a = some (.lst vs) ∧ ¬ O a) ∧ RDs c O H xs vs
  | .ktup xs, v => ∃ a vs, v = .ref a ∧ KTp c.K a vs ∧ RDs c O H xs vs
  | .klst xs, v => ∃ a vs, v = .ref a ∧ (KL c.K a vs ∨ Fz O H a (.lst vs)) ∧ RDs c O H xs vs
  | .dK kvs, v => ∃ a vs, v = .ref a ∧ Fz O H a (.dK vs) ∧ RDk c O H kvs vs
  | .dT kvs, v => ∃ a vs, v = .ref a ∧ Fz O H a (.dT vs) ∧ RDt c O H kvs vs
  | .obj n fs, v => ∃ a dx vs, v = .ref a ∧ (H a = some (.ins (c.cl n) dx vs) ∧ ¬ O a) ∧ RDf c O H fs vs
  | .hole, _ => True
def RDs (c : Vb) (O : Addr → Prop) (H : Hp) : List D → List V → Prop
  | [], vs => vs = []
  | d :: ds, vs => ∃ v r, vs = v :: r ∧ RD c O H d v ∧ RDs c O H ds r
def RDk (c : Vb) (O : Addr → Prop) (H : Hp) : List (Key × D) → List (Key × V) → Prop
  | [], vs => vs = []
  | (k, d) :: ds, vs => ∃ v r, vs = (k, v) :: r ∧ RD c O H d v ∧ RDk c O H ds r
def RDt (c : Vb) (O : Addr → Prop) (H : Hp) : List (List Key × D) → List (List Key × V) → Prop
  | [], vs => vs = []
  | (k, d) :: ds, vs => ∃ v r, vs = (k, v) :: r ∧ RD c O H d v ∧ RDt c O H ds r
def RDf (c : Vb) (O : Addr → Prop) (H : Hp) : List (Str × D) → List (Str × V) → Prop
  | [], vs => vs = []
  | (k, d) :: ds, vs => ∃ v r, vs = (k, v) :: r ∧ RD c O H d v ∧ RDf c O H ds r
end
mutual
def RT (c : Vb) (O : Addr → Prop) (H : Hp) : T → V → List Addr → Prop
  | .fr d, v, fp => RD c O H d v ∧ fp = []
  | .lst xs, v, fp => ∃ a vs, v = .ref a ∧ H a = some (.lst vs) ∧ RDs c O H xs vs ∧ fp = [a]
  | .dK kvs, v, fp => ∃ a vs, v = .ref a ∧ H a = some (.dK vs) ∧ RDk c O H kvs vs ∧ fp = [a]
  | .dT kvs, v, fp => ∃ a vs, v = .ref a ∧ H a = some (.dT vs) ∧ RDt c O H kvs vs ∧ fp = [a]
  | .obj n fs, v, fp => ∃ a dx vs fq, v = .ref a ∧ H a = some (.ins (c.cl n) dx vs) ∧ RTf c O H fs vs fq ∧ fp = a :: fq
  | .tl ts, v, fp => ∃ a vs, v = .ref a ∧ (H a = some (.lst vs) ∧ ¬ O a) ∧ RTs c O H ts vs fp
  | .hole, _, fp => fp = []
def RTs (c : Vb) (O : Addr → Prop) (H : Hp) : List T → List V → List Addr → Prop
  | [], vs, f => vs = [] ∧ f = []
  | t :: ts, vs, f => ∃ v r f1 f2, vs = v :: r ∧ RT c O H t v f1 ∧ RTs c O H ts r f2 ∧ f = f1 ++ f2
def RTf (c : Vb) (O : Addr → Prop) (H : Hp) : List (Str × T) → List (Str × V) → List Addr → Prop
  | [], vs, fp => vs = [] ∧ fp = []
  | (k, t) :: ts, vs, fp => ∃ v r f1 f2, vs = (k, v) :: r ∧ RT c O H t v f1 ∧ RTf c O H ts r f2 ∧ fp = f1 ++ f2
end
end Vl

namespace Vl
open PySem PySem.Spec PyProof.Rows L2

variable {c : Vb} {O O' : Addr → Prop} {H H' : Hp}

/-! ### standing still -/
/-- alike but for a lock -/
def Sim (x y : Option HO) : Prop := strip y = strip x ∧ (∀ vs, x = some (.tup vs) → y = some (.tup vs)) ∧ (∀ C dx fs, x = some (.ins C dx fs) → y = some (.ins C dx fs)) ∧ (∀ vs, x = some (.lst vs) → y = some (.lst vs)) ∧ ∀ vs, x = some (.xd vs) → y = some (.xd vs)
theorem Sim.of {x y : Option HO} (h : y = x) : Sim x y := by subst h; exact ⟨rfl, fun _ q => q, fun _ _ _ q => q, fun _ q => q, fun _ q => q⟩
def Stb (O : Addr → Prop) (H : Hp) (O' : Addr → Prop) (H' : Hp) : Prop :=
  (∀ a, ¬ O a → nT (H a) → Sim (H a) (H' a)) ∧ ∀ a, O' a → O a ∨ H a = none
theorem Stb.of (h1 : ∀ a, ¬ O a → nT (H a) → H' a = H a) (h2 : ∀ a, O' a → O a ∨ H a = none) : Stb O H O' H' := ⟨fun a n h => .of (h1 a n h), h2⟩
theorem Stb.less (h : ∀ a, O' a → O a) : Stb O H O' H := .of (fun _ _ _ => rfl) fun a q => .inl (h a q)
theorem strip_none : strip none = none := rfl
theorem strip_ne {x : Option HO} {u : HO} (h : strip x = some u) (k : isTb u = false) : nT x := by
  cases x with
  | none => cases h
  | some y =>
    cases y with
    | tbl ps => cases h; cases k
    | _ => exact ⟨_, rfl, rfl⟩
theorem Stb.no (s : Stb O H O' H') {a : Addr} (n : ¬ O a) (h : nT (H a)) : ¬ O' a := fun q => (s.2 a q).elim n h.ne
theorem Fz.stb (s : Stb O H O' H') {a : Addr} {u : HO} (f : Fz O H a u) (k : isTb u = false := by rfl) : Fz O' H' a u :=
  ⟨(s.1 a f.2 (strip_ne f.1 k)).1.trans f.1, s.no f.2 (strip_ne f.1 k)⟩
mutual
theorem RD.stb (s : Stb O H O' H') : ∀ {d : D} {v : V}, RD c O H d v → RD c O' H' d v
  | .non, _, h => h | .bl _, _, h => h | .int _, _, h => h | .str _, _, h => h | .con _, _, h => h | .ty _, _, h => h
  | .tup xs, _, ⟨a, vs, e, h, r⟩ => ⟨a, vs, e, ⟨(s.1 a h.2 (.of h.1)).2.1 _ h.1, s.no h.2 (.of h.1)⟩, RDs.stb s r⟩
  | .lst xs, _, ⟨a, vs, e, h, r⟩ => ⟨a, vs, e, ⟨(s.1 a h.2 (.of h.1)).2.2.2.1 _ h.1, s.no h.2 (.of h.1)⟩, RDs.stb s r⟩
  | .ktup xs, _, ⟨a, vs, e, h, r⟩ => ⟨a, vs, e, h, RDs.stb s r⟩
  | .klst xs, _, ⟨a, vs, e, h, r⟩ => ⟨a, vs, e, h.imp id (fun q => q.stb s), RDs.stb s r⟩
  | .dK _, _, ⟨a, vs, e, h, r⟩ => ⟨a, vs, e, h.stb s, RDk.stb s r⟩
  | .dT _, _, ⟨a, vs, e, h, r⟩ => ⟨a, vs, e, h.stb s, RDt.stb s r⟩
  | .obj _ _, _, ⟨a, dx, vs, e, h, r⟩ => ⟨a, dx, vs, e, ⟨(s.1 a h.2 (.of h.1)).2.2.1 _ _ _ h.1, s.no h.2 (.of h.1)⟩, RDf.stb s r⟩
  | .hole, _, _ => trivial
theorem RDs.stb (s : Stb O H O' H') : ∀ {d : List D} {v : List V}, RDs c O H d v → RDs c O' H' d v
  | [], _, h => h
  | _ :: _, _, ⟨v, r, e, h, t⟩ => ⟨v, r, e, h.stb s, RDs.stb s t⟩
theorem RDk.stb (s : Stb O H O' H') : ∀ {d : List (Key × D)} {v : List (Key × V)}, RDk c O H d v → RDk c O' H' d v
  | [], _, h => h
  | (_, _) :: _, _, ⟨v, r, e, h, t⟩ => ⟨v, r, e, h.stb s, RDk.stb s t⟩
theorem RDt.stb (s : Stb O H O' H') : ∀ {d : List (List Key × D)} {v : List (List Key × V)}, RDt c O H d v → RDt c O' H' d v
  | [], _, h => h
  | (_, _) :: _, _, ⟨v, r, e, h, t⟩ => ⟨v, r, e, h.stb s, RDt.stb s t⟩
theorem RDf.stb (s : Stb O H O' H') : ∀ {d : List (Str × D)} {v : List (Str × V)}, RDf c O H d v → RDf c O' H' d v
  | [], _, h => h
  | (_, _) :: _, _, ⟨v, r, e, h, t⟩ => ⟨v, r, e, h.stb s, RDf.stb s t⟩
end
mutual
theorem RT.stb (s : Stb O H O' H') : ∀ {t : T} {v : V} {f : List Addr}, RT c O H t v f → (∀ a ∈ f, H' a = H a) → RT c O' H' t v f
  | .fr _, _, _, ⟨h, e⟩, _ => ⟨h.stb s, e⟩
  | .lst _, _, _, ⟨a, vs, e, h, r, ef⟩, k => ⟨a, vs, e, (k a (by rw [ef]; simp)).trans h, r.stb s, ef⟩
  | .dK _, _, _, ⟨a, vs, e, h, r, ef⟩, k => ⟨a, vs, e, (k a (by rw [ef]; simp)).trans h, r.stb s, ef⟩
  | .dT _, _, _, ⟨a, vs, e, h, r, ef⟩, k => ⟨a, vs, e, (k a (by rw [ef]; simp)).trans h, r.stb s, ef⟩
  | .obj _ _, _, _, ⟨a, dx, vs, fq, e, h, r, ef⟩, k => ⟨a, dx, vs, fq, e, (k a (by rw [ef]; simp)).trans h, RTf.stb s r (fun b hb => k b (by rw [ef]; simp [hb])), ef⟩
  | .tl _, _, _, ⟨a, vs, e, h, r⟩, k => ⟨a, vs, e, ⟨(s.1 a h.2 (.of h.1)).2.2.2.1 _ h.1, s.no h.2 (.of h.1)⟩, RTs.stb s r k⟩
  | .hole, _, _, h, _ => h
theorem RTs.stb (s : Stb O H O' H') : ∀ {t : List T} {v : List V} {f : List Addr}, RTs c O H t v f → (∀ a ∈ f, H' a = H a) → RTs c O' H' t v f
  | [], _, _, h, _ => h
  | _ :: _, _, _, ⟨v, r, f1, f2, e, h, t, ef⟩, k => ⟨v, r, f1, f2, e, h.stb s (fun b hb => k b (by rw [ef]; simp [hb])), RTs.stb s t (fun b hb => k b (by rw [ef]; simp [hb])), ef⟩
theorem RTf.stb (s : Stb O H O' H') : ∀ {t : List (Str × T)} {v : List (Str × V)} {f : List Addr}, RTf c O H t v f → (∀ a ∈ f, H' a = H a) → RTf c O' H' t v f
  | [], _, _, h, _ => h
  | (_, _) :: _, _, _, ⟨v, r, f1, f2, e, h, t, ef⟩, k => ⟨v, r, f1, f2, e, h.stb s (fun b hb => k b (by rw [ef]; simp [hb])), RTf.stb s t (fun b hb => k b (by rw [ef]; simp [hb])), ef⟩
end
mutual
theorem RT.trk : ∀ {t : T} {v : V} {f : List Addr}, RT c O H t v f → ∀ a ∈ f, nT (H a)
  | .fr _, _, _, ⟨h, e⟩, a, ha => by rw [e] at ha; cases ha
  | .lst _, _, _, ⟨a, vs, e, h, r, ef⟩, b, hb => by rw [ef] at hb; simp at hb; rw [hb]; exact .of h
  | .dK _, _, _, ⟨a, vs, e, h, r, ef⟩, b, hb => by rw [ef] at hb; simp at hb; rw [hb]; exact .of h
  | .dT _, _, _, ⟨a, vs, e, h, r, ef⟩, b, hb => by rw [ef] at hb; simp at hb; rw [hb]; exact .of h
  | .obj _ _, _, _, ⟨a, dx, vs, fq, e, h, r, ef⟩, b, hb => by
    rw [ef] at hb
    rcases List.mem_cons.mp hb with q | q
    · rw [q]; exact .of h
    · exact RTf.trk r b q
  | .tl _, _, _, ⟨a, vs, e, h, r⟩, b, hb => RTs.trk r b hb
  | .hole, _, _, h, b, hb => by rw [show _ = [] from h] at hb; cases hb
theorem RTs.trk : ∀ {t : List T} {v : List V} {f : List Addr}, RTs c O H t v f → ∀ a ∈ f, nT (H a)
  | [], _, _, h, a, ha => by rw [h.2] at ha; cases ha
  | _ :: _, _, _, ⟨v, r, f1, f2, e, h, t, ef⟩, a, ha => by
    rw [ef] at ha
    rcases List.mem_append.mp ha with q | q
    · exact RT.trk h a q
    · exact RTs.trk t a q
theorem RTf.trk : ∀ {t : List (Str × T)} {v : List (Str × V)} {f : List Addr}, RTf c O H t v f → ∀ a ∈ f, nT (H a)
  | [], _, _, h, a, ha => by rw [h.2] at ha; cases ha
  | (_, _) :: _, _, _, ⟨v, r, f1, f2, e, h, t, ef⟩, a, ha => by
    rw [ef] at ha
    rcases List.mem_append.mp ha with q | q
    · exact RT.trk h a q
    · exact RTf.trk t a q
end

/-! ### own things come to rest -/
mutual
def T.toD : T → D
  | .fr d => d | .lst xs => .lst xs | .dK k => .dK k | .dT k => .dT k
  | .obj n fs => .obj n (T.toDf fs)
  | .tl ts => .lst (T.toDs ts)
  | .hole => .hole
def T.toDs : List T → List D
  | [] => []
  | t :: r => t.toD :: T.toDs r
def T.toDf : List (Str × T) → List (Str × D)
  | [] => []
  | (k, t) :: r => (k, t.toD) :: T.toDf r
end
mutual
theorem RT.rest (hO : ∀ a, O' a → O a) : ∀ {t : T} {v : V} {f : List Addr}, RT c O H t v f → (∀ a ∈ f, ¬ O' a) → RD c O' H t.toD v
  | .fr _, _, _, ⟨h, _⟩, _ => h.stb (.less hO)
  | .lst _, _, _, ⟨a, vs, e, h, r, ef⟩, k => ⟨a, vs, e, ⟨h, k a (by rw [ef]; simp)⟩, r.stb (.less hO)⟩
  | .dK _, _, _, ⟨a, vs, e, h, r, ef⟩, k => ⟨a, vs, e, ⟨by rw [h]; rfl, k a (by rw [ef]; simp)⟩, r.stb (.less hO)⟩
  | .dT _, _, _, ⟨a, vs, e, h, r, ef⟩, k => ⟨a, vs, e, ⟨by rw [h]; rfl, k a (by rw [ef]; simp)⟩, r.stb (.less hO)⟩
  | .obj _ _, _, _, ⟨a, dx, vs, fq, e, h, r, ef⟩, k => ⟨a, dx, vs, e, ⟨h, k a (by rw [ef]; simp)⟩, RTf.rest hO r (fun b hb => k b (by rw [ef]; simp [hb]))⟩
  | .tl _, _, _, ⟨a, vs, e, h, r⟩, k => ⟨a, vs, e, ⟨h.1, fun q => h.2 (hO a q)⟩, RTs.rest hO r k⟩
  | .hole, _, _, _, _ => trivial
theorem RTs.rest (hO : ∀ a, O' a → O a) : ∀ {t : List T} {v : List V} {f : List Addr}, RTs c O H t v f → (∀ a ∈ f, ¬ O' a) → RDs c O' H (T.toDs t) v
  | [], _, _, h, _ => h.1
  | _ :: _, _, _, ⟨v, r, f1, f2, e, h, t, ef⟩, k => ⟨v, r, e, h.rest hO (fun b hb => k b (by rw [ef]; simp [hb])), RTs.rest hO t (fun b hb => k b (by rw [ef]; simp [hb]))⟩
theorem RTf.rest (hO : ∀ a, O' a → O a) : ∀ {t : List (Str × T)} {v : List (Str × V)} {f : List Addr}, RTf c O H t v f → (∀ a ∈ f, ¬ O' a) → RDf c O' H (T.toDf t) v
  | [], _, _, h, _ => h.1
  | (_, _) :: _, _, _, ⟨v, r, f1, f2, e, h, t, ef⟩, k => ⟨v, r, e, h.rest hO (fun b hb => k b (by rw [ef]; simp [hb])), RTf.rest hO t (fun b hb => k b (by rw [ef]; simp [hb]))⟩
end

/-! ### the slots -/
abbrev Env := List (Option T)
def RS (c : Vb) (O : Addr → Prop) (H : Hp) : Env → L2.St → List Addr → Prop
  | [], σ, fp => σ = [] ∧ fp = []
  | none :: ρ, σ, fp => ∃ s r, σ = s :: r ∧ RS c O H ρ r fp
  | some t :: ρ, σ, fp => ∃ v r f1 f2, σ = some v :: r ∧ RT c O H t v f1 ∧ RS c O H ρ r f2 ∧ fp = f1 ++ f2
/-- a slot holds a caught exception -/
def PinOk (c : Vb) (O : Addr → Prop) (H : Hp) (σ : L2.St) (p : Pin) : Prop := σ[p.i]? = some (some (.ref p.a)) ∧ ∀ q, p.d = some q → (H q.1 = some (.xd q.2.1) ∧ ¬ O q.1) ∧ RDf c O H q.2.2 q.2.1
theorem PinOk.stb {σ : L2.St} {p : Pin} (h : PinOk c O H σ p) (s : Stb O H O' H') : PinOk c O' H' σ p := ⟨h.1, fun q e => by
  obtain ⟨⟨h1, h2⟩, h3⟩ := h.2 q e
  exact ⟨⟨(s.1 _ h2 (.of h1)).2.2.2.2 _ h1, s.no h2 (.of h1)⟩, h3.stb s⟩⟩
structure SR (c : Vc) (O : Addr → Prop) (fp : List Addr) (H : Hp) (ρ : Env) (σ : L2.St) : Prop where
  rs : RS c O H ρ σ fp
  nd : fp.Nodup
  ow : ∀ b ∈ fp, O b
  tr : ∀ b, O b → nT (H b)
  tb : Tabs c H
  px : ∀ p ∈ c.xs, PinOk c O H σ p
structure Ext (fp : List Addr) (O : Addr → Prop) (H : Hp) (fp' : List Addr) (O' : Addr → Prop) (H' : Hp) : Prop where
  kp : ∀ b, nT (H b) → b ∉ fp → H' b = H b
  th : ∀ b, H b ≠ none → H' b ≠ none
  ok : ∀ b, O b → b ∉ fp → O' b
  on : ∀ b, O' b → O b ∨ H b = none
  fn : ∀ b ∈ fp', b ∈ fp ∨ H b = none
theorem Ext.refl {fp : List Addr} : Ext fp O H fp O H := ⟨fun _ _ _ => rfl, fun _ h => h, fun _ h _ => h, fun _ h => .inl h, fun _ h => .inl h⟩
theorem Ext.trans {f1 f2 f3 : List Addr} {O1 O2 O3 : Addr → Prop} {H1 H2 H3 : Hp} (a : Ext f1 O1 H1 f2 O2 H2) (b : Ext f2 O2 H2 f3 O3 H3) (tr : ∀ b, O1 b → nT (H1 b)) : Ext f1 O1 H1 f3 O3 H3 where
  kp := fun x h n => (b.kp x (by rw [a.kp x h n]; exact h) fun q => (a.fn x q).elim n h.ne).trans (a.kp x h n)
  th := fun x h => b.th x (a.th x h)
  ok := fun x h n => b.ok x (a.ok x h n) fun q => (a.fn x q).elim n (tr x h).ne
  on := fun x h => (b.on x h).elim (a.on x) fun q => .inr (Classical.byContradiction fun z => a.th x z q)
  fn := fun x h => (b.fn x h).elim (a.fn x) fun q => .inr (Classical.byContradiction fun z => a.th x z q)
theorem Ext.stb {f1 f2 : List Addr} {O1 O2 : Addr → Prop} {H1 H2 : Hp} (a : Ext f1 O1 H1 f2 O2 H2) (ow : ∀ b ∈ f1, O1 b) : Stb O1 H1 O2 H2 :=
  .of (fun x n h => a.kp x h fun q => n (ow x q)) a.on
/-- nothing that is tracked has changed -/
def Ins (H H' : Hp) : Prop := ∀ a, nT (H a) → H' a = H a
theorem Ins.refl : Ins H H := fun _ _ => rfl
theorem Ins.trans {H1 H2 H3 : Hp} (a : Ins H1 H2) (b : Ins H2 H3) : Ins H1 H3 := fun x h => (b x (by rw [a x h]; exact h)).trans (a x h)
theorem RS.len : ∀ {ρ : Env} {σ : L2.St} {fp : List Addr}, RS c O H ρ σ fp → σ.length = ρ.length
  | [], _, _, ⟨e, _⟩ => by rw [e]; rfl
  | none :: _, _, _, ⟨_, _, e, r⟩ => by rw [e]; simp [RS.len r]
  | some _ :: _, _, _, ⟨_, _, _, _, e, _, r, _⟩ => by rw [e]; simp [RS.len r]
theorem RS.stb (s : Stb O H O' H') : ∀ {ρ : Env} {σ : L2.St} {f : List Addr}, RS c O H ρ σ f → (∀ a ∈ f, H' a = H a) → RS c O' H' ρ σ f
  | [], _, _, h, _ => h
  | none :: _, _, _, ⟨s', r, e, h⟩, k => ⟨s', r, e, RS.stb s h k⟩
  | some _ :: _, _, _, ⟨v, r, f1, f2, e, h, t, ef⟩, k => ⟨v, r, f1, f2, e, h.stb s (fun b hb => k b (by rw [ef]; simp [hb])), RS.stb s t (fun b hb => k b (by rw [ef]; simp [hb])), ef⟩
/-- the i-th slot: its own part, the rest's -/
theorem RS.get : ∀ {ρ : Env} {σ : L2.St} {fp : List Addr} {i : Nat} {t : T}, RS c O H ρ σ fp → ρ[i]? = some (some t) → ∃ v f fl fr, σ[i]? = some (some v) ∧ RT c O H t v f ∧ fp = fl ++ f ++ fr ∧
    (∀ {O' : Addr → Prop} {H' : Hp} {t' : T} {v' : V} {f' : List Addr}, Stb O H O' H' → (∀ a ∈ fl ++ fr, H' a = H a) → RT c O' H' t' v' f' → RS c O' H' (ρ.set i (some t')) (σ.set i (some v')) (fl ++ f' ++ fr)) ∧
    (∀ {O' : Addr → Prop} {H' : Hp} {s' : Option V}, Stb O H O' H' → (∀ a ∈ fl ++ fr, H' a = H a) → RS c O' H' (ρ.set i none) (σ.set i s') (fl ++ fr))
  | [], _, _, _, _, _, h => by simp at h
  | none :: ρ, _, _, 0, _, _, h => by simp at h
  | none :: ρ, _, _, i + 1, t, ⟨s', r, e, h⟩, q => by
    obtain ⟨v, f, fl, fr, h1, h2, h3, h4, h5⟩ := RS.get (i := i) h (by simpa using q)
    exact ⟨v, f, fl, fr, by rw [e]; simpa using h1, h2, h3, fun s k z => ⟨s', _, by rw [e]; rfl, h4 s k z⟩, fun s k => ⟨s', _, by rw [e]; rfl, h5 s k⟩⟩
  | some t0 :: ρ, _, _, 0, t, ⟨v, r, f1, f2, e, h, z, ef⟩, q => by
    have et : t0 = t := by simpa using q
    subst et
    refine ⟨v, f1, [], f2, by rw [e]; rfl, h, by rw [ef]; rfl, fun s k y => ⟨_, r, _, f2, by rw [e]; rfl, y, RS.stb s z (fun a ha => k a (by simpa using ha)), by simp⟩, @fun _ _ s2 s k => ⟨s2, r, by rw [e]; rfl, RS.stb s z (fun a ha => k a (by simpa using ha))⟩⟩
  | some t0 :: ρ, _, _, i + 1, t, ⟨v, r, f1, f2, e, h, z, ef⟩, q => by
    obtain ⟨v', f, fl, fr, h1, h2, h3, h4, h5⟩ := RS.get (i := i) z (by simpa using q)
    refine ⟨v', f, f1 ++ fl, fr, by rw [e]; simpa using h1, h2, by rw [ef, h3]; simp, fun s k y => ⟨v, _, f1, _, by rw [e]; rfl, h.stb s (fun a ha => k a (by simp [ha])), h4 s (fun a ha => k a (by simp at ha ⊢; rcases ha with ha | ha <;> simp [ha])) y, by simp⟩,
      fun s k => ⟨v, _, f1, _, by rw [e]; rfl, h.stb s (fun a ha => k a (by simp [ha])), h5 s (fun a ha => k a (by simp at ha ⊢; rcases ha with ha | ha <;> simp [ha])), by simp⟩⟩
/-- a slot that holds nothing known, or that is stored anew -/
theorem RS.put : ∀ {ρ : Env} {σ : L2.St} {fp : List Addr} {i : Nat}, RS c O H ρ σ fp → i < ρ.length → ∃ fl f fr, fp = fl ++ f ++ fr ∧
    (∀ {O' : Addr → Prop} {H' : Hp} {t' : T} {v' : V} {f' : List Addr}, Stb O H O' H' → (∀ a ∈ fl ++ fr, H' a = H a) → RT c O' H' t' v' f' → RS c O' H' (ρ.set i (some t')) (σ.set i (some v')) (fl ++ f' ++ fr)) ∧
    (∀ {O' : Addr → Prop} {H' : Hp} {s' : Option V}, Stb O H O' H' → (∀ a ∈ fl ++ fr, H' a = H a) → RS c O' H' (ρ.set i none) (σ.set i s') (fl ++ fr))
  | [], _, _, _, _, h => by simp at h
  | none :: ρ, _, fp, 0, ⟨s', r, e, h⟩, _ => ⟨[], [], fp, by simp, fun s k y => ⟨_, r, _, fp, by rw [e]; rfl, y, RS.stb s h (fun a ha => k a (by simpa using ha)), by simp⟩, @fun _ _ s2 s k => ⟨s2, r, by rw [e]; rfl, RS.stb s h (fun a ha => k a (by simpa using ha))⟩⟩
  | none :: ρ, _, _, i + 1, ⟨s', r, e, h⟩, q => by
    obtain ⟨fl, f, fr, h3, h4, h5⟩ := RS.put (i := i) h (by simpa using q)
    exact ⟨fl, f, fr, h3, fun s k z => ⟨s', _, by rw [e]; rfl, h4 s k z⟩, fun s k => ⟨s', _, by rw [e]; rfl, h5 s k⟩⟩
  | some t0 :: ρ, _, _, 0, ⟨v, r, f1, f2, e, h, z, ef⟩, q =>
    ⟨[], f1, f2, by rw [ef]; rfl, fun s k y => ⟨_, r, _, f2, by rw [e]; rfl, y, RS.stb s z (fun a ha => k a (by simpa using ha)), by simp⟩, @fun _ _ s2 s k => ⟨s2, r, by rw [e]; rfl, RS.stb s z (fun a ha => k a (by simpa using ha))⟩⟩
  | some t0 :: ρ, _, _, i + 1, ⟨v, r, f1, f2, e, h, z, ef⟩, q => by
    obtain ⟨fl, f, fr, h3, h4, h5⟩ := RS.put (i := i) z (by simpa using q)
    refine ⟨f1 ++ fl, f, fr, by rw [ef, h3]; simp, fun s k y => ⟨v, _, f1, _, by rw [e]; rfl, h.stb s (fun a ha => k a (by simp [ha])), h4 s (fun a ha => k a (by simp at ha ⊢; rcases ha with ha | ha <;> simp [ha])) y, by simp⟩,
      fun s k => ⟨v, _, f1, _, by rw [e]; rfl, h.stb s (fun a ha => k a (by simp [ha])), h5 s (fun a ha => k a (by simp at ha ⊢; rcases ha with ha | ha <;> simp [ha])), by simp⟩⟩
end Vl

namespace Vl
open PySem PySem.Spec PyProof.Rows L2

inductive Val where
  | fr (d : D) | nw (t : T) | al (i : Nat)
  /-- the part j of the list in slot i -/
  | pt (i j : Nat)
structure Exn where
  n : Str
  fs : List (Str × D)
inductive Out (α : Type) where
  | val (a : α) (ρ : Env) | exc (x : Exn) (ρ : Env)
abbrev FG (α : Type) := Env → Option (Out α)
abbrev FE := FG Val
def bnd {α β : Type} (f : FG α) (k : α → FG β) : FG β := fun ρ => match f ρ with
  | none => none
  | some (.exc x ρ') => some (.exc x ρ')
  | some (.val a ρ') => k a ρ'
def ret {α : Type} (a : α) : FG α := fun ρ => some (.val a ρ)
def lft {α : Type} (o : Option α) : FG α := fun ρ => o.map fun a => .val a ρ

/-- a relation between a result and what stands for it -/
abbrev Rl (α β : Type) := (Addr → Prop) → List Addr → Hp → Env → L2.St → α → β → List Addr → Prop
def RV (c : Vc) : Rl Val V := fun O fp H _ σ w u g => match w with
  | .fr d => RD c O H d u ∧ g = []
  | .nw t => RT c O H t u g ∧ g.Nodup ∧ ∀ b ∈ g, O b ∧ b ∉ fp
  | .al i => σ[i]? = some (some u) ∧ g = []
  | .pt i j => (∃ a vs, σ[i]? = some (some (.ref a)) ∧ (H a = some (.lst vs) ∧ ¬ O a) ∧ vs[j]? = some u) ∧ g = []
def RVs (c : Vc) : Rl (List Val) (List V) := fun O fp H ρ σ ws us g => match ws with
  | [] => us = [] ∧ g = []
  | w :: ws => ∃ u r g1 g2, us = u :: r ∧ RV c O fp H ρ σ w u g1 ∧ RVs c O fp H ρ σ ws r g2 ∧ g = g1 ++ g2 ∧ ∀ b ∈ g1, b ∉ g2
def RB : Rl Bool Bool := fun _ _ _ _ _ b k g => b = k ∧ g = []
def RX (c : Vb) (O : Addr → Prop) (H : Hp) (x : Exn) (cls : Value) (d : Option Addr) : Prop :=
  cls = .ref (c.cl x.n) ∧ match x.fs with
    | [] => d = none
    | fs => ∃ dd vs, d = some dd ∧ (H dd = some (.xd vs) ∧ ¬ O dd) ∧ RDf c O H fs vs
/-- new, or one of the slots' own ahead -/
def Fr (g fp : List Addr) (H : Hp) : Prop := ∀ a ∈ g, H a = none ∨ a ∈ fp
def Post {α β : Type} (rl : Rl α β) (c : Vc) (W : WX) (b : Bool) (O : Addr → Prop) (fp : List Addr) (H : Hp) (σ : L2.St) (r : Option (Out α)) (Q : β → Hp → Prop) : Prop := match r with
  | none => False
  | some (.val w ρ') => ∀ u H' O' fp' g, SR c O' fp' H' ρ' σ → Ext fp O H fp' O' H' → (b = true → Ins H H') → rl O' fp' H' ρ' σ w u g → Fr g fp H → Q u H'
  | some (.exc x ρ') => ∀ cls d H' O' fp', SR c O' fp' H' ρ' σ → Ext fp O H fp' O' H' → RX c O' H' x cls d → W cls d σ H'
abbrev TEG (β : Type) := L2.St → Hp → (β → Hp → Prop) → Prop
def Ok {α β : Type} (rl : Rl α β) (c : Vc) (W : WX) (b : Bool) (f : FG α) (te : TEG β) : Prop :=
  ∀ O fp H ρ σ Q, SR c O fp H ρ σ → Post rl c W b O fp H σ (f ρ) Q → te σ H Q
def VE (c : Vc) (X : Cx) (W : WX) (b : Bool) (e : Expr) (f : FE) : Prop := ∃ te : TE, PE X e te ∧ Ok (RV c) c W b f te
def VA (c : Vc) (X : Cx) (W : WX) (b : Bool) (es : List Expr) (f : FG (List Val)) : Prop := ∃ te : TA, PA X es te ∧ Ok (RVs c) c W b f te
def VT (c : Vc) (X : Cx) (W : WX) (b : Bool) (e : Expr) (f : FG Bool) : Prop := ∃ te : TT, PT X e te ∧ Ok RB c W b f te
def VW (c : Vc) (X : Cx) (W : WX) (b : Bool) (e : Expr) (f : FG Bool) : Prop := ∃ te : TT, PW X e te ∧ Ok RB c W b f te

section
variable {c : Vc} {X : Cx} {W : WX} {b b1 b2 : Bool} {α β γ δ : Type} {O O1 O2 : Addr → Prop} {fp fp1 fp2 : List Addr} {H H1 H2 : Hp} {ρ ρ1 ρ2 : Env} {σ : L2.St}
/-- THE CHAIN: one more part is worked on -/
theorem Ok.thn {rl1 : Rl α β} {rl : Rl γ δ} {f : FG α} {te : TEG β} {k : α → FG γ} {Q : δ → Hp → Prop} {Qx : β → Hp → Prop} (ok : Ok rl1 c W b1 f te) (S0 : ∀ b, O b → nT (H b)) (S1 : SR c O1 fp1 H1 ρ1 σ) (E1 : Ext fp O H fp1 O1 H1) (I1 : b = true → Ins H H1)
    (h : Post rl c W b O fp H σ (bnd f k ρ1) Q) (hb : b = true → b1 = true)
    (next : ∀ w ρ2 u H2 O2 fp2 g2, f ρ1 = some (.val w ρ2) → SR c O2 fp2 H2 ρ2 σ → Ext fp O H fp2 O2 H2 → Ext fp1 O1 H1 fp2 O2 H2 → (b = true → Ins H H2) → rl1 O2 fp2 H2 ρ2 σ w u g2 → Fr g2 fp1 H1 → Post rl c W b O fp H σ (k w ρ2) Q → Qx u H2) :
    te σ H1 Qx := by
  refine ok O1 fp1 H1 ρ1 σ Qx S1 ?_
  unfold bnd at h
  revert h
  cases e : f ρ1 with
  | none => exact fun h => h
  | some o =>
    cases o with
    | exc x ρ' => exact fun h cls d H' O' fp' S E R => h cls d H' O' fp' S (E1.trans E S0) R
    | val w ρ' => exact fun h u H' O' fp' g S E I R F => next w ρ' u H' O' fp' g e S (E1.trans E S0) E (fun q => (I1 q).trans (I (hb q))) R F h
theorem SR.stb (S : SR c O fp H ρ σ) (E : Ext fp O H fp1 O1 H1) : Stb O H O1 H1 := E.stb S.ow
theorem RV.per {w : Val} {u : V} {g : List Addr} (r : RV c O fp H ρ σ w u g) (S : SR c O fp H ρ σ) (E : Ext fp O H fp1 O1 H1) : RV c O1 fp1 H1 ρ1 σ w u g := by
  cases w with
  | fr d => exact ⟨r.1.stb (S.stb E), r.2⟩
  | al i => exact r
  | pt i j =>
    obtain ⟨⟨a, vs, h1, h2, h3⟩, h4⟩ := r
    have s := S.stb E
    exact ⟨⟨a, vs, h1, ⟨(s.1 a h2.2 (.of h2.1)).2.2.2.1 _ h2.1, s.no h2.2 (.of h2.1)⟩, h3⟩, h4⟩
  | nw t =>
    obtain ⟨h, nd, k⟩ := r
    have tr := h.trk
    exact ⟨h.stb (S.stb E) fun a ha => E.kp a (tr a ha) (k a ha).2, nd, fun a ha => ⟨E.ok a (k a ha).1 (k a ha).2, fun q => (E.fn a q).elim (k a ha).2 (tr a ha).ne⟩⟩
theorem RVs.per : ∀ {ws : List Val} {us : List V} {g : List Addr}, RVs c O fp H ρ σ ws us g → SR c O fp H ρ σ → Ext fp O H fp1 O1 H1 → RVs c O1 fp1 H1 ρ1 σ ws us g
  | [], _, _, h, _, _ => h
  | _ :: _, _, _, ⟨u, r, g1, g2, e, h, t, eg, dj⟩, S, E => ⟨u, r, g1, g2, e, h.per S E, RVs.per t S E, eg, dj⟩
theorem RV.trk {w : Val} {u : V} {g : List Addr} (r : RV c O fp H ρ σ w u g) : ∀ a ∈ g, nT (H a) := by
  cases w with
  | fr d => rw [r.2]; intro a ha; cases ha
  | al i => rw [r.2]; intro a ha; cases ha
  | pt i j => rw [r.2]; intro a ha; cases ha
  | nw t => exact r.1.trk
theorem RVs.trk : ∀ {ws : List Val} {us : List V} {g : List Addr}, RVs c O fp H ρ σ ws us g → ∀ a ∈ g, nT (H a)
  | [], _, _, h, a, ha => by rw [h.2] at ha; cases ha
  | _ :: _, _, _, ⟨u, r, g1, g2, e, h, t, eg, dj⟩, a, ha => by
    rw [eg] at ha
    rcases List.mem_append.mp ha with q | q
    · exact h.trk a q
    · exact RVs.trk t a q
theorem RV.nod {w : Val} {u : V} {g : List Addr} (r : RV c O fp H ρ σ w u g) : g.Nodup := by
  cases w with
  | fr d => rw [r.2]; exact .nil
  | al i => rw [r.2]; exact .nil
  | pt i j => rw [r.2]; exact .nil
  | nw t => exact r.2.1
theorem RV.own {w : Val} {u : V} {g : List Addr} (r : RV c O fp H ρ σ w u g) : ∀ a ∈ g, O a ∧ a ∉ fp := by
  cases w with
  | fr d => rw [r.2]; intro a ha; cases ha
  | al i => rw [r.2]; intro a ha; cases ha
  | pt i j => rw [r.2]; intro a ha; cases ha
  | nw t => exact r.2.2

/-! ### looking at a value -/
/-- the outer part may be one's own, all within stands still -/
def Pk (c : Vb) (O : Addr → Prop) (H : Hp) : D → V → Prop
  | .lst xs, v => ∃ a vs, v = .ref a ∧ H a = some (.lst vs) ∧ RDs c O H xs vs
  | .dK kvs, v => ∃ a vs, v = .ref a ∧ strip (H a) = some (.dK vs) ∧ RDk c O H kvs vs
  | .dT kvs, v => ∃ a vs, v = .ref a ∧ strip (H a) = some (.dT vs) ∧ RDt c O H kvs vs
  | .obj n fs, v => ∃ a dx vs, v = .ref a ∧ H a = some (.ins (c.cl n) dx vs) ∧ RDf c O H fs vs
  | d, v => RD c O H d v
theorem RD.pk {d : D} {v : V} (r : RD c O H d v) : Pk c O H d v := by
  cases d with
  | lst xs => obtain ⟨a, vs, e, h, r⟩ := r; exact ⟨a, vs, e, h.1, r⟩
  | dK xs => obtain ⟨a, vs, e, h, r⟩ := r; exact ⟨a, vs, e, h.1, r⟩
  | dT xs => obtain ⟨a, vs, e, h, r⟩ := r; exact ⟨a, vs, e, h.1, r⟩
  | obj n fs => obtain ⟨a, dx, vs, e, h, r⟩ := r; exact ⟨a, dx, vs, e, h.1, r⟩
  | tup xs => exact r
  | _ => exact r
def T.flds : List (Str × T) → Option (List (Str × D))
  | [] => some []
  | (k, .fr d) :: r => (T.flds r).map fun l => (k, d) :: l
  | _ => none
def T.pk : T → Option D
  | .fr d => some d | .lst xs => some (.lst xs) | .dK k => some (.dK k) | .dT k => some (.dT k)
  | .obj n fs => (T.flds fs).map (.obj n)
  | .tl _ => none
  | .hole => none
theorem flds_rd : ∀ {fs : List (Str × T)} {l : List (Str × D)} {vs : List (Str × V)} {f : List Addr}, T.flds fs = some l → RTf c O H fs vs f → RDf c O H l vs
  | [], l, vs, f, e, h => by
    cases e; exact h.1
  | (k, .fr d) :: r, l, vs, f, e, h => by
    unfold T.flds at e
    cases q : T.flds r with
    | none => rw [q] at e; cases e
    | some l' =>
      rw [q] at e; cases e
      obtain ⟨v, r', f1, f2, e1, h1, h2, _⟩ := h
      exact ⟨v, r', e1, h1.1, flds_rd q h2⟩
  | (k, .lst _) :: r, l, vs, f, e, h => by simp [T.flds] at e
  | (k, .dK _) :: r, l, vs, f, e, h => by simp [T.flds] at e
  | (k, .dT _) :: r, l, vs, f, e, h => by simp [T.flds] at e
  | (k, .obj _ _) :: r, l, vs, f, e, h => by simp [T.flds] at e
  | (k, .tl _) :: r, l, vs, f, e, h => by simp [T.flds] at e
  | (k, .hole) :: r, l, vs, f, e, h => by simp [T.flds] at e
theorem RT.pk {t : T} {d : D} {v : V} {f : List Addr} (h : RT c O H t v f) (e : t.pk = some d) : Pk c O H d v := by
  cases t with
  | fr d' => cases e; exact h.1.pk
  | lst xs => cases e; obtain ⟨a, vs, e, h, r, _⟩ := h; exact ⟨a, vs, e, h, r⟩
  | dK xs => cases e; obtain ⟨a, vs, e, h, r, _⟩ := h; exact ⟨a, vs, e, by rw [h]; rfl, r⟩
  | dT xs => cases e; obtain ⟨a, vs, e, h, r, _⟩ := h; exact ⟨a, vs, e, by rw [h]; rfl, r⟩
  | obj n fs =>
    obtain ⟨a, dx, vs, fq, e1, h1, r, _⟩ := h
    have e : (T.flds fs).map (.obj n) = some d := e
    cases q : T.flds fs with
    | none => rw [q] at e; cases e
    | some l => rw [q] at e; cases e; exact ⟨a, dx, vs, e1, h1, flds_rd q r⟩
  | tl ts => cases e
  | hole => cases e
theorem RTs.get {O : Addr → Prop} {H : Hp} : ∀ {ts : List T} {vs : List V} {f : List Addr} {j : Nat} {t : T}, RTs c O H ts vs f → ts[j]? = some t → ∃ v g, vs[j]? = some v ∧ RT c O H t v g ∧ ∀ a ∈ g, a ∈ f
  | [], _, _, _, _, _, h => by simp at h
  | t0 :: ts, _, _, 0, t, ⟨v, r, f1, f2, e, h, z, ef⟩, q => by
    have et : t0 = t := by simpa using q
    subst et
    exact ⟨v, f1, by rw [e]; rfl, h, fun a ha => by rw [ef]; simp [ha]⟩
  | t0 :: ts, _, _, j + 1, t, ⟨v, r, f1, f2, e, h, z, ef⟩, q => by
    obtain ⟨v', g, h1, h2, h3⟩ := RTs.get (j := j) z (by simpa using q)
    exact ⟨v', g, by rw [e]; simpa using h1, h2, fun a ha => by rw [ef]; simp [h3 a ha]⟩
def vw (ρ : Env) : Val → Option D
  | .fr d => some d
  | .nw t => t.pk
  | .al i => match ρ[i]? with
    | some (some t) => t.pk
    | _ => none
  | .pt i j => match ρ[i]? with
    | some (some (.tl ts)) => (ts[j]?).bind T.pk
    | _ => none
theorem RV.vw {w : Val} {u : V} {g : List Addr} {d : D} (r : RV c O fp H ρ σ w u g) (S : SR c O fp H ρ σ) (e : vw ρ w = some d) : Pk c O H d u := by
  cases w with
  | fr d' => cases e; exact r.1.pk
  | nw t => exact r.1.pk e
  | al i =>
    have e : (match ρ[i]? with | some (some t) => t.pk | _ => none) = some d := e
    cases q : ρ[i]? with
    | none => rw [q] at e; cases e
    | some o =>
      cases o with
      | none => rw [q] at e; cases e
      | some t =>
        rw [q] at e
        obtain ⟨v, f, fl, fr, h1, h2, _⟩ := S.rs.get q
        rw [r.1] at h1
        cases h1
        exact h2.pk e
  | pt i j =>
    have e : (match ρ[i]? with | some (some (.tl ts)) => (ts[j]?).bind T.pk | _ => none) = some d := e
    split at e
    · rename_i ts q
      obtain ⟨t, e1, e2⟩ := Option.bind_eq_some_iff.mp e
      obtain ⟨v, f, fl, fr, h1, h2, _⟩ := S.rs.get q
      obtain ⟨⟨a, vs, q1, q2, q3⟩, _⟩ := r
      obtain ⟨a', vs', rfl, w2, w3⟩ := h2
      rw [q1] at h1
      cases h1
      rw [q2.1] at w2
      cases w2.1
      obtain ⟨v', g', x1, x2, _⟩ := w3.get e1
      rw [q3] at x1
      cases x1
      exact x2.pk e2
    · cases e
/-- what a temporary, or a thing at rest, is when it is put away -/
def fz : Val → Option D
  | .fr d => some d
  | .nw t => some t.toD
  | .al _ => none
  | .pt _ _ => none

/-! ### a builtin's answer: nothing changes but new things -/
structure PR (c : Vb) (O : Addr → Prop) (H : Hp) (w : Val) (u : V) (H' : Hp) (g : List Addr) : Prop where
  kp : ∀ b, H b ≠ none → H' b = H b
  fr : ∀ a ∈ g, H a = none ∧ nT (H' a)
  nd : g.Nodup
  rl : match w with
    | .fr d => RD c (fun a => O a ∨ a ∈ g) H' d u ∧ g = []
    | .nw t => RT c (fun a => O a ∨ a ∈ g) H' t u g
    | .al _ => False
    | .pt _ _ => False
theorem PR.ext {w : Val} {u : V} {H' : Hp} {g : List Addr} (p : PR c O H w u H' g) : Ext fp O H fp (fun a => O a ∨ a ∈ g) H' :=
  ⟨fun b h _ => p.kp b h.ne, fun b h => by rw [p.kp b h]; exact h, fun b h _ => .inl h, fun b h => h.imp id fun q => (p.fr b q).1, fun b h => .inl h⟩
theorem SR.grow {g : List Addr} {H' : Hp} (S : SR c O fp H ρ σ) (kp : ∀ b, H b ≠ none → H' b = H b) (fr : ∀ a ∈ g, H a = none ∧ nT (H' a)) : SR c (fun a => O a ∨ a ∈ g) fp H' ρ σ :=
  ⟨S.rs.stb (.of (fun a _ h => kp a h.ne) fun a h => h.imp id fun q => (fr a q).1) fun a ha => kp a (S.tr a (S.ow a ha)).ne, S.nd, fun b hb => .inl (S.ow b hb), fun b h => h.elim (fun q => by rw [kp b (S.tr b q).ne]; exact S.tr b q) fun q => (fr b q).2, fun P hP => by
    obtain ⟨ps, e, k⟩ := S.tb P hP
    exact ⟨ps, by rw [kp P (by rw [e]; simp)]; exact e, k⟩, fun p hp => (S.px p hp).stb (.of (fun a _ h => kp a h.ne) fun a h => h.imp id fun q => (fr a q).1)⟩
theorem PR.rv {w : Val} {u : V} {H' : Hp} {g : List Addr} (p : PR c O H w u H' g) (S : SR c O fp H ρ σ) : RV c (fun a => O a ∨ a ∈ g) fp H' ρ σ w u g := by
  have r := p.rl
  cases w with
  | fr d => exact r
  | al i => exact r.elim
  | pt i j => exact r.elim
  | nw t => exact ⟨r, p.nd, fun b hb => ⟨.inr hb, fun q => (S.tr b (S.ow b q)).ne (p.fr b hb).1⟩⟩
/-- the end of a chain: a builtin answers -/
theorem Post.pr {Q : V → Hp → Prop} {w : Val} {u : V} {H' : Hp} {g : List Addr} (h : Post (RV c) c W b O fp H σ (some (.val w ρ1)) Q) (S0 : ∀ b, O b → nT (H b)) (S : SR c O1 fp1 H1 ρ1 σ) (E : Ext fp O H fp1 O1 H1) (I : b = true → Ins H H1) (p : PR c O1 H1 w u H' g) : Q u H' :=
  h u H' _ fp1 g (S.grow p.kp p.fr) (E.trans p.ext S0) (fun q => (I q).trans fun a h => p.kp a h.ne) (p.rv S) fun a ha => .inl (Classical.byContradiction fun z => E.th a z (p.fr a ha).1)
/-- .. with no change -/
theorem PR.same {d : D} {u : V} (r : RD c O H d u) : PR c O H (.fr d) u H [] :=
  ⟨fun _ _ => rfl, fun _ h => (by cases h), .nil, ⟨r.stb (.less fun a h => h.elim id fun q => (by cases q)), rfl⟩⟩
theorem grow_stb {p : Addr} {o : HO} {g : List Addr} (hp : H p = none) (hg : ∀ a ∈ g, H a = none) : Stb O H (fun a => O a ∨ a ∈ g) (upd H p o) :=
  .of (fun a _ h => upd_ne (fun q => h.ne (by rw [q]; exact hp))) fun a h => h.imp id (hg a)
/-- .. a new list of one's own -/
theorem PR.lst {xs : List D} {vs : List V} {p : Addr} (hp : H p = none) (r : RDs c O H xs vs) : PR c O H (.nw (.lst xs)) (.ref p) (upd H p (.lst vs)) [p] :=
  ⟨fun b h => upd_ne (fun q => h (by rw [q]; exact hp)), fun a ha => by simp at ha; subst ha; exact ⟨hp, .of upd_same⟩, by simp, ⟨p, vs, rfl, upd_same, r.stb (grow_stb hp (fun a ha => by simp at ha; rw [ha]; exact hp)), rfl⟩⟩
/-- .. a new tuple -/
theorem PR.tup {xs : List D} {vs : List V} {p : Addr} (hp : H p = none) (tr : ∀ b, O b → nT (H b)) (r : RDs c O H xs vs) : PR c O H (.fr (.tup xs)) (.ref p) (upd H p (.tup vs)) [] :=
  ⟨fun b h => upd_ne (fun q => h (by rw [q]; exact hp)), fun a ha => (by cases ha), .nil, ⟨⟨p, vs, rfl, ⟨upd_same, fun q => q.elim (fun z => (tr p z).ne hp) fun z => (by cases z)⟩, r.stb (grow_stb hp (fun a ha => (by cases ha)))⟩, rfl⟩⟩
end
end Vl

namespace Vl
open PySem PySem.Spec PyProof.Rows L2

section
variable {c : Vc} {X : Cx} {W : WX} {b b1 b2 : Bool} {α β γ δ : Type} {O O1 O2 : Addr → Prop} {fp fp1 fp2 : List Addr} {H H1 H2 : Hp} {ρ ρ1 ρ2 : Env} {σ : L2.St}
theorem SR.tr0 (S : SR c O fp H ρ σ) : ∀ b, O b → nT (H b) := S.tr
/-! ### constants, names -/
def vC (d : D) : FE := ret (.fr d)
theorem ok_c {d : D} {u : V} (r : ∀ O H, RD c O H d u) : Ok (RV c) c W b (vC d) (tC u) := fun O fp H ρ σ Q S h =>
  h u H O fp [] S .refl (fun _ => .refl) ⟨r O H, rfl⟩ (fun _ q => (by cases q))
theorem ve_int {i j pos} : VE c X W b (.Constant (.int i) j pos) (vC (.int i)) := ⟨_, pe_int, ok_c fun _ _ => rfl⟩
theorem ve_bl {i j pos} : VE c X W b (.Constant (.bool i) j pos) (vC (.bl i)) := ⟨_, pe_bl, ok_c fun _ _ => rfl⟩
theorem ve_non {j pos} : VE c X W b (.Constant .none j pos) (vC .non) := ⟨_, pe_non, ok_c fun _ _ => rfl⟩
theorem ve_str {x j pos} : VE c X W b (.Constant (.str x) j pos) (vC (.str x)) := ⟨_, pe_str, ok_c fun _ _ => rfl⟩
/-- a slot -/
def vV (i : Nat) : FE := fun ρ => match ρ[i]? with
  | some (some (.fr d)) => some (.val (.fr d) ρ)
  | some (some _) => some (.val (.al i) ρ)
  | _ => none
theorem ok_v {i : Nat} : Ok (RV c) c W b (vV i) (tVar i) := fun O fp H ρ σ Q S h => by
  unfold vV at h
  revert h
  cases e : ρ[i]? with
  | none => exact fun h => h.elim
  | some o =>
    cases o with
    | none => exact fun h => h.elim
    | some t =>
      intro h
      obtain ⟨v, f, fl, fr, h1, h2, _⟩ := S.rs.get e
      refine ⟨v, h1, ?_⟩
      cases t with
      | fr d => exact h v H O fp [] S .refl (fun _ => .refl) ⟨h2.1, rfl⟩ (fun _ q => (by cases q))
      | _ => exact h v H O fp [] S .refl (fun _ => .refl) ⟨h1, rfl⟩ (fun _ q => (by cases q))
theorem ve_v (i : Nat) {x : Str} {pos : Pos} (hN : X.N[i]? = some x := by rfl) (hv : Vis X.env.scope x := by first | exact Or.inl rfl | exact Or.inr (Or.inl rfl) | exact Or.inr (Or.inr rfl)) (hd : (x == ("__debug__" : Str)) = false := by decide)
    (hcd : (x == ("__classdict__" : Str)) = false := by decide) : VE c X W b (.Name x pos) (vV i) := ⟨_, pv i hN hv hd hcd, ok_v⟩
/-- a def, a class of the text as a value; a constant of the module -/
theorem ve_g {x : Str} {d : D} {v : V} {u : Value} {pos : Pos} (hg : Gl X x) (hm : X.mg x = some u) (r : RelV v u) (rd : ∀ O H, RD c O H d v) (hd : (x == ("__debug__" : Str)) = false := by decide) : VE c X W b (.Name x pos) (vC d) :=
  ⟨_, pe_glob hg hm r hd, ok_c rd⟩

/-! ### two values, one answer -/
/-- g is what the operator gives -/
def OpS (c : Vc) (r : R2) (g : D → D → Option Val) : Prop := ∀ O H x y dx dy w (Q : VK), (∀ b, O b → nT (H b)) → Pk c O H dx x → Pk c O H dy y → g dx dy = some w → (∀ u H' gg, PR c O H w u H' gg → Q u H') → r x y H Q
def w2 (g : D → D → Option Val) (x y : Val) (ρ : Env) : Option Val := (vw ρ x).bind fun dx => (vw ρ y).bind fun dy => g dx dy
theorem w2_some {g : D → D → Option Val} {x y w : Val} {ρ : Env} (h : w2 g x y ρ = some w) : ∃ dx dy, vw ρ x = some dx ∧ vw ρ y = some dy ∧ g dx dy = some w := by
  unfold w2 at h
  obtain ⟨dx, h1, h⟩ := Option.bind_eq_some_iff.mp h
  obtain ⟨dy, h2, h⟩ := Option.bind_eq_some_iff.mp h
  exact ⟨dx, dy, h1, h2, h⟩
def v2 (g : D → D → Option Val) (x y : Val) : FE := fun ρ => match w2 g x y ρ with
  | some w => some (.val w ρ)
  | none => none
def vOp (g : D → D → Option Val) (fa fb : FE) : FE := bnd fa fun x => bnd fb fun y => v2 g x y
variable {a e e' : Expr} {fa fb fc : FE} {pos : Pos} {ta tb : TE} {r : R2} {g : D → D → Option Val}
theorem Post.op2 {Q : V → Hp → Prop} {x y : Val} {u v : V} {g1 g2 : List Addr} (hr : OpS c r g) (S0 : ∀ b, O b → nT (H b)) (S : SR c O1 fp1 H1 ρ1 σ) (E : Ext fp O H fp1 O1 H1) (I : b = true → Ins H H1) (rx : RV c O1 fp1 H1 ρ1 σ x u g1) (ry : RV c O1 fp1 H1 ρ1 σ y v g2)
    (h : Post (RV c) c W b O fp H σ (v2 g x y ρ1) Q) : r u v H1 Q := by
  unfold v2 at h
  revert h
  cases e : w2 g x y ρ1 with
  | none => exact fun h => h.elim
  | some w =>
    intro h
    obtain ⟨dx, dy, ex, ey, eg⟩ := w2_some e
    exact hr O1 H1 u v dx dy w Q S.tr (rx.vw S ex) (ry.vw S ey) eg fun u' H' gg p => Post.pr h S0 S E I p
theorem ok_op (hr : OpS c r g) (ha : Ok (RV c) c W b fa ta) (hb : Ok (RV c) c W b fb tb) : Ok (RV c) c W b (vOp g fa fb) (tOp r ta tb) := fun O fp H ρ σ Q S h =>
  ha.thn S.tr S .refl (fun _ => .refl) h id fun x ρ1 u H1 O1 fp1 g1 _ S1 E1 _ I1 R1 F1 h1 =>
    hb.thn S.tr S1 E1 I1 h1 id fun y ρ2 v H2 O2 fp2 g2 _ S2 E2 E12 I2 R2 F2 h2 => Post.op2 hr S.tr S2 E2 I2 (R1.per S1 E12) R2 h2
theorem ve_op {op : Operator} (ho : OpR X (binaryOp op) r) (hr : OpS c r g) (ha : VE c X W b a fa) (hb : VE c X W b e fb) : VE c X W b (.BinOp a op e pos) (vOp g fa fb) := by
  obtain ⟨ta, pa, oa⟩ := ha
  obtain ⟨tb, pb, ob⟩ := hb
  exact ⟨_, pe_op ho pa pb, ok_op hr oa ob⟩
theorem ve_cmp {op : CmpOp} (ho : OpR X (compareOp op) r) (hr : OpS c r g) (ha : VE c X W b a fa) (hb : VE c X W b e fb) (hm : behindInMarks op e = false) : VE c X W b (.Compare a [op] [e] pos) (vOp g fa fb) := by
  obtain ⟨ta, pa, oa⟩ := ha
  obtain ⟨tb, pb, ob⟩ := hb
  exact ⟨_, pe_cmpR ho pa pb hm, ok_op hr oa ob⟩
/-- a value that is a bool, as a test -/
def asB (x : Val) : FG Bool := match x with
  | .fr (.bl k) => ret k
  | _ => fun _ => none
theorem Post.asB {Q : Bool → Hp → Prop} {x : Val} {u : V} {g1 : List Addr} (h : Post RB c W b O fp H σ (asB x ρ1) Q) (S : SR c O1 fp1 H1 ρ1 σ) (E : Ext fp O H fp1 O1 H1) (I : b = true → Ins H H1) (rx : RV c O1 fp1 H1 ρ1 σ x u g1) : ∃ k, u = .bl k ∧ Q k H1 := by
  cases x with
  | fr d =>
    cases d with
    | bl k => exact ⟨k, rx.1, h k H1 O1 fp1 [] S E I ⟨rfl, rfl⟩ fun _ q => (by cases q)⟩
    | _ => exact (show False from h).elim
  | _ => exact (show False from h).elim
theorem vt_val (ha : VE c X W b a fa) (he : ∀ whole, isTrue a X.env whole = (do let v ← whole; standAt a.pos; holding [v] (truthy v)) := by intro _; rfl) : VT c X W b a (bnd fa asB) := by
  obtain ⟨ta, pa, oa⟩ := ha
  exact ⟨_, pt_val pa he, fun O fp H ρ σ Q S h => oa.thn S.tr S .refl (fun _ => .refl) h id fun x ρ1 u H1 O1 fp1 g1 _ S1 E1 _ I1 R1 F1 h1 => Post.asB h1 S1 E1 I1 R1⟩
theorem vt_cmp {op : CmpOp} (ho : OpR X (compareOp op) r) (hr : OpS c r g) (ha : VE c X W b a fa) (hb : VE c X W b e fb) (hm : behindInMarks op e = false) : VT c X W b (.Compare a [op] [e] pos) (bnd (vOp g fa fb) asB) := by
  obtain ⟨ta, pa, oa⟩ := ha
  obtain ⟨tb, pb, ob⟩ := hb
  exact ⟨_, pt_cmpR ho pa pb hm, fun O fp H ρ σ Q S h => (ok_op hr oa ob).thn S.tr S .refl (fun _ => .refl) h id fun x ρ1 u H1 O1 fp1 g1 _ S1 E1 _ I1 R1 F1 h1 => Post.asB h1 S1 E1 I1 R1⟩
theorem Post.v2k {rl : Rl γ δ} {Q : δ → Hp → Prop} {x y : Val} {k : Val → FG γ} (h : Post rl c W b O fp H σ (bnd (v2 g x y) k ρ) Q) : ∃ w, w2 g x y ρ = some w ∧ Post rl c W b O fp H σ (k w ρ) Q := by
  cases e : w2 g x y ρ with
  | none =>
    have e2 : bnd (v2 g x y) k ρ = none := by simp only [bnd, v2, e]
    rw [e2] at h
    exact h.elim
  | some w =>
    have e2 : bnd (v2 g x y) k ρ = k w ρ := by simp only [bnd, v2, e]
    rw [e2] at h
    exact ⟨w, rfl, h⟩
/-- a op b op' d -/
def vCh (g g' : D → D → Option Val) (fa fb fc : FE) : FE := bnd fa fun x => bnd fb fun y => bnd (v2 g x y) fun z => bnd (asB z) fun k => if k then bnd fc fun w => v2 g' y w else ret (.fr (.bl false))
theorem ok_ch {r' : R2} {g' : D → D → Option Val} {tc : TE} (hr : OpS c r g) (hr' : OpS c r' g') (ha : Ok (RV c) c W b fa ta) (hb : Ok (RV c) c W b fb tb) (hc : Ok (RV c) c W b fc tc)
    (sg : ∀ dx dy w, g dx dy = some w → ∃ k, w = .fr (.bl k)) : Ok (RV c) c W b (vCh g g' fa fb fc) (tChain r r' ta tb tc) := fun O fp H ρ σ Q S h =>
  ha.thn S.tr S .refl (fun _ => .refl) h id fun x ρ1 u H1 O1 fp1 g1 _ S1 E1 _ I1 R1 F1 h1 =>
    hb.thn S.tr S1 E1 I1 h1 id fun y ρ2 v H2 O2 fp2 g2 _ S2 E2 E12 I2 R2 F2 h2 => by
      have R1' := R1.per (ρ1 := ρ2) S1 E12
      obtain ⟨w, e, h⟩ := Post.v2k h2
      obtain ⟨dx, dy, ex, ey, eg⟩ := w2_some e
      obtain ⟨k, rfl⟩ := sg _ _ _ eg
      have h : Post (RV c) c W b O fp H σ ((if k then bnd fc fun w => v2 g' y w else ret (.fr (.bl false))) ρ2) Q := h
      refine hr O2 H2 u v dx dy _ _ S2.tr (R1'.vw S2 ex) (R2.vw S2 ey) eg fun u' H' gg p => ?_
      have hu : u' = .bl k := p.rl.1
      refine ⟨k, hu, ?_⟩
      have hg : gg = [] := p.rl.2
      subst hg
      have S3 := S2.grow p.kp p.fr
      have E3 : Ext fp2 O2 H2 fp2 _ H' := p.ext
      have I3 : b = true → Ins H H' := fun q => (I2 q).trans fun a h => p.kp a h.ne
      cases k with
      | true =>
        refine hc.thn S.tr S3 (E2.trans E3 S.tr) I3 h id fun w ρ4 u4 H4 O4 fp4 g4 _ S4 E4 E34 I4 R4 F4 h4 => ?_
        exact Post.op2 hr' S.tr S4 E4 I4 ((R2.per (ρ1 := ρ2) S2 E3).per S3 E34) R4 h4
      | false => exact h (.bl false) H' _ fp2 [] S3 (E2.trans E3 S.tr) I3 ⟨rfl, rfl⟩ fun _ q => (by cases q)
end
end Vl

namespace Vl
open PySem PySem.Spec PyProof.Rows L2

section
variable {c : Vc} {X : Cx} {W : WX} {b b1 b2 : Bool} {α β γ δ : Type} {O O1 O2 : Addr → Prop} {fp fp1 fp2 : List Addr} {H H1 H2 : Hp} {ρ ρ1 ρ2 : Env} {σ : L2.St}
variable {a e e' : Expr} {es : List Expr} {fa fb fc : FE} {pos : Pos} {ta tb : TE} {ft fu : FG Bool} {tt tu : TT} {fs : FG (List Val)} {ts : TA}
/-! ### tests -/
def vAnd (f g : FG Bool) : FG Bool := bnd f fun k => if k then g else ret false
def vOr (f g : FG Bool) : FG Bool := bnd f fun k => if k then ret true else g
def vNot (f : FG Bool) : FG Bool := bnd f fun k => ret (!k)
theorem fresh_of {g : List Addr} (E : Ext fp O H fp1 O1 H1) (F : Fr g fp1 H1) : Fr g fp H := fun a ha => (F a ha).elim (fun q => .inl (Classical.byContradiction fun z => E.th a z q)) fun q => (E.fn a q).symm
theorem ok_and (h1 : Ok RB c W b ft tt) (h2 : Ok RB c W b fu tu) : Ok RB c W b (vAnd ft fu) (tAnd tt tu) := fun O fp H ρ σ Q S h =>
  h1.thn S.tr S .refl (fun _ => .refl) h id fun k ρ1 u H1 O1 fp1 g1 _ S1 E1 _ I1 R1 F1 h' => by
    obtain ⟨e, eg⟩ := R1
    subst e
    cases k with
    | true =>
      show tu σ H1 Q
      have h'' : Post RB c W b O fp H σ (bnd fu ret ρ1) Q := by
        have : bnd fu ret ρ1 = fu ρ1 := by unfold bnd ret; split <;> simp_all
        rw [this]; exact h'
      exact h2.thn S.tr S1 E1 I1 h'' id fun k ρ2 u H2 O2 fp2 g2 _ S2 E2 _ I2 R2 F2 h3 => h3 u H2 O2 fp2 g2 S2 E2 I2 R2 (fresh_of E1 F2)
    | false => exact h' false H1 O1 fp1 [] S1 E1 I1 ⟨rfl, rfl⟩ fun _ q => (by cases q)
theorem ok_or (h1 : Ok RB c W b ft tt) (h2 : Ok RB c W b fu tu) : Ok RB c W b (vOr ft fu) (tOr tt tu) := fun O fp H ρ σ Q S h =>
  h1.thn S.tr S .refl (fun _ => .refl) h id fun k ρ1 u H1 O1 fp1 g1 _ S1 E1 _ I1 R1 F1 h' => by
    obtain ⟨e, eg⟩ := R1
    subst e
    cases k with
    | false =>
      show tu σ H1 Q
      have h'' : Post RB c W b O fp H σ (bnd fu ret ρ1) Q := by
        have : bnd fu ret ρ1 = fu ρ1 := by unfold bnd ret; split <;> simp_all
        rw [this]; exact h'
      exact h2.thn S.tr S1 E1 I1 h'' id fun k ρ2 u H2 O2 fp2 g2 _ S2 E2 _ I2 R2 F2 h3 => h3 u H2 O2 fp2 g2 S2 E2 I2 R2 (fresh_of E1 F2)
    | true => exact h' true H1 O1 fp1 [] S1 E1 I1 ⟨rfl, rfl⟩ fun _ q => (by cases q)
theorem ok_not (h1 : Ok RB c W b ft tt) : Ok RB c W b (vNot ft) (tNot tt) := fun O fp H ρ σ Q S h =>
  h1.thn S.tr S .refl (fun _ => .refl) h id fun k ρ1 u H1 O1 fp1 g1 _ S1 E1 _ I1 R1 F1 h' => by
    obtain ⟨e, eg⟩ := R1
    subst e
    exact h' (!k) H1 O1 fp1 [] S1 E1 I1 ⟨rfl, rfl⟩ fun _ q => (by cases q)
theorem VW.vt (h : VW c X W b e ft) : VT c X W b e ft := by
  obtain ⟨t, p, o⟩ := h
  exact ⟨t, p.pt, o⟩
theorem vw_and1 (h : VT c X W b a ft) : VW c X W b (.BoolOp .And [a] pos) ft := by
  obtain ⟨t, p, o⟩ := h
  exact ⟨t, pw_and1 p, o⟩
theorem vw_or1 (h : VT c X W b a ft) : VW c X W b (.BoolOp .Or [a] pos) ft := by
  obtain ⟨t, p, o⟩ := h
  exact ⟨t, pw_or1 p, o⟩
theorem vw_and {rest : List Expr} (h1 : VT c X W b a ft) (h2 : VW c X W b (.BoolOp .And (e :: rest) pos) fu) : VW c X W b (.BoolOp .And (a :: e :: rest) pos) (vAnd ft fu) := by
  obtain ⟨t, p, o⟩ := h1
  obtain ⟨t2, p2, o2⟩ := h2
  exact ⟨_, pw_and p p2, ok_and o o2⟩
theorem vw_or {rest : List Expr} (h1 : VT c X W b a ft) (h2 : VW c X W b (.BoolOp .Or (e :: rest) pos) fu) : VW c X W b (.BoolOp .Or (a :: e :: rest) pos) (vOr ft fu) := by
  obtain ⟨t, p, o⟩ := h1
  obtain ⟨t2, p2, o2⟩ := h2
  exact ⟨_, pw_or p p2, ok_or o o2⟩
theorem vt_not (h1 : VT c X W b a ft) : VT c X W b (.UnaryOp .Not a pos) (vNot ft) := by
  obtain ⟨t, p, o⟩ := h1
  exact ⟨_, pt_not p, ok_not o⟩
/-- a value's truth -/
def szB (n : Nat) : Bool := decide (n ≤ 16777216)
def dTru : D → Option Bool
  | .non => some false | .bl k => some k | .int i => some (i != 0)
  | .str x => if szB x.length then some ((x.length : Int) != 0) else none
  | .lst xs => some (!xs.isEmpty) | .tup xs => some (!xs.isEmpty) | .klst xs => some (!xs.isEmpty) | .ktup xs => some (!xs.isEmpty)
  | _ => none
def asT (x : Val) : FG Bool := fun ρ => match (vw ρ x).bind dTru with
  | some k => some (.val k ρ)
  | none => none
theorem szB_ok {n : Nat} (h : szB n = true) : n ≤ sizeLine := by rw [sizeLine_eq]; exact of_decide_eq_true h
theorem RDs.len : ∀ {ds : List D} {vs : List V}, RDs c O H ds vs → vs.length = ds.length
  | [], _, h => by rw [show _ = [] from h]; rfl
  | _ :: _, _, ⟨v, r, e, _, t⟩ => by rw [e]; simp [RDs.len t]
theorem RDs.emp {ds : List D} {vs : List V} (h : RDs c O H ds vs) : vs.isEmpty = ds.isEmpty := by
  cases ds with
  | nil => rw [show vs = [] from h]; rfl
  | cons d ds => obtain ⟨v, r, e, _⟩ := h; rw [e]; rfl
theorem RDk.emp {ds : List (Key × D)} {vs : List (Key × V)} (h : RDk c O H ds vs) : vs.isEmpty = ds.isEmpty := by
  cases ds with
  | nil => rw [show vs = [] from h]; rfl
  | cons d ds => obtain ⟨k, d⟩ := d; obtain ⟨v, r, e, _⟩ := h; rw [e]; rfl
theorem rd_of {a : Addr} {u : HO} (h : strip (H a) = some u) (hu : ∀ o w, u ≠ .frz o w) : Rd H a u := by
  cases q : H a with
  | none => rw [q] at h; cases h
  | some x =>
    rw [q] at h
    cases x with
    | frz o w => cases h; exact .inr ⟨o, q⟩
    | _ => cases h; exact .inl q
theorem sqL_of {K : PySem.W.Frag} {a : Addr} {vs : List V} (h : H a = some (.lst vs)) : SqL K H a vs := .inl (.inl h)
theorem sqK_of {a : Addr} {vs : List V} (h : KL c.K a vs ∨ Fz O H a (.lst vs)) : SqL c.K H a vs := h.elim .inr fun q => .inl (rd_of q.1 (fun _ _ z => by cases z))
theorem sqT_of {K : PySem.W.Frag} {a : Addr} {vs : List V} (h : H a = some (.tup vs)) : SqT K H a vs := .inl (.inl h)
end
end Vl

namespace Vl
open PySem PySem.Spec PyProof.Rows L2

section
variable {c : Vc} {X : Cx} {W : WX} {b b1 b2 : Bool} {α β γ δ : Type} {O O1 O2 : Addr → Prop} {fp fp1 fp2 : List Addr} {H H1 H2 : Hp} {ρ ρ1 ρ2 : Env} {σ : L2.St}
variable {a e e' : Expr} {es : List Expr} {fa fb fc : FE} {pos : Pos} {ta tb : TE} {ft fu : FG Bool} {tt tu : TT} {fs : FG (List Val)} {ts : TA}
theorem dTru_ok (hK : X.K = c.K) {d : D} {v : V} {k : Bool} (p : Pk c O H d v) (e : dTru d = some k) : TruV X.K v H k := by
  rw [hK]
  cases d with
  | non => cases e; rw [show v = .non from p]; rfl
  | bl b' => cases e; rw [show v = .bl k from p]; rfl
  | int i => cases e; rw [show v = .int i from p]; rfl
  | str x =>
    rw [show v = .str x from p]
    have e : (if szB x.length then some ((x.length : Int) != 0) else none) = some k := e
    by_cases h : szB x.length = true
    · rw [if_pos h] at e; cases e; exact ⟨szB_ok h, rfl⟩
    · rw [if_neg h] at e; cases e
  | lst xs =>
    cases e
    obtain ⟨a, vs, rfl, h, r⟩ := p
    exact .inl ⟨vs, sqL_of h, by rw [r.emp]⟩
  | tup xs =>
    cases e
    obtain ⟨a, vs, rfl, h, r⟩ := p
    exact .inr (.inl ⟨vs, sqT_of h.1, by rw [r.emp]⟩)
  | klst xs =>
    cases e
    obtain ⟨a, vs, rfl, h, r⟩ := p
    exact .inl ⟨vs, sqK_of h, by rw [r.emp]⟩
  | ktup xs =>
    cases e
    obtain ⟨a, vs, rfl, h, r⟩ := p
    exact .inr (.inl ⟨vs, .inr h, by rw [r.emp]⟩)
  | _ => cases e
theorem Post.asT (hK : X.K = c.K) {Q : Bool → Hp → Prop} {x : Val} {u : V} {g1 : List Addr} (h : Post RB c W b O fp H σ (asT x ρ1) Q) (S : SR c O1 fp1 H1 ρ1 σ) (E : Ext fp O H fp1 O1 H1) (I : b = true → Ins H H1) (rx : RV c O1 fp1 H1 ρ1 σ x u g1) : ∃ k, TruV X.K u H1 k ∧ Q k H1 := by
  unfold Vl.asT at h
  revert h
  cases e : (vw ρ1 x).bind dTru with
  | none => exact fun h => h.elim
  | some k =>
    intro h
    obtain ⟨d, h1, h2⟩ := Option.bind_eq_some_iff.mp e
    exact ⟨k, dTru_ok hK (rx.vw S h1) h2, h k H1 O1 fp1 [] S E I ⟨rfl, rfl⟩ fun _ q => (by cases q)⟩
theorem vt_tru (hK : X.K = c.K) (ha : VE c X W b a fa) (he : ∀ whole, isTrue a X.env whole = (do let v ← whole; standAt a.pos; holding [v] (truthy v)) := by intro _; rfl) : VT c X W b a (bnd fa asT) := by
  obtain ⟨ta, pa, oa⟩ := ha
  exact ⟨_, pt_truth pa he, fun O fp H ρ σ Q S h => oa.thn S.tr S .refl (fun _ => .refl) h id fun x ρ1 u H1 O1 fp1 g1 _ S1 E1 _ I1 R1 F1 h1 => Post.asT hK h1 S1 E1 I1 R1⟩
/-- a test's answer as a value: and, or, not of bools -/
def vAndV (fa fb : FE) : FE := bnd (bnd fa asB) fun k => if k then fb else ret (.fr (.bl false))
def vOrV (fa fb : FE) : FE := bnd (bnd fa asB) fun k => if k then ret (.fr (.bl true)) else fb
def vNotV (fa : FE) : FE := bnd (bnd fa asB) fun k => ret (.fr (.bl (!k)))
theorem bnd_ret {f : FG α} : bnd f ret = f := by
  funext ρ
  unfold bnd ret
  split <;> simp_all
theorem bnd_bnd {f : FG α} {k : α → FG β} {l : β → FG γ} : bnd (bnd f k) l = bnd f fun x => bnd (k x) l := by
  funext ρ
  unfold bnd
  cases f ρ with
  | none => rfl
  | some o => cases o <;> rfl
theorem Post.asBk {rl : Rl γ δ} {Q : δ → Hp → Prop} {x : Val} {k : Bool → FG γ} (h : Post rl c W b O fp H σ (bnd (Vl.asB x) k ρ) Q) : ∃ d, x = .fr (.bl d) ∧ Post rl c W b O fp H σ (k d ρ) Q := by
  cases x with
  | fr d =>
    cases d with
    | bl d => exact ⟨d, rfl, h⟩
    | _ => exact (show False from h).elim
  | _ => exact (show False from h).elim
theorem ok_andV (h1 : Ok (RV c) c W b fa ta) (h2 : Ok (RV c) c W b fb tb) : Ok (RV c) c W b (vAndV fa fb) (tAndV ta tb) := fun O fp H ρ σ Q S h => by
  unfold vAndV at h
  rw [bnd_bnd] at h
  refine h1.thn S.tr S .refl (fun _ => .refl) h id fun k ρ1 u H1 O1 fp1 g1 _ S1 E1 _ I1 R1 F1 h' => ?_
  obtain ⟨d, rfl, h'⟩ := Post.asBk h'
  refine ⟨d, R1.1, ?_⟩
  cases d with
  | true =>
    rw [if_pos rfl]
    have h'' : Post (RV c) c W b O fp H σ (bnd fb ret ρ1) Q := by rw [bnd_ret]; exact h'
    exact h2.thn S.tr S1 E1 I1 h'' id fun k ρ2 u H2 O2 fp2 g2 _ S2 E2 _ I2 R2 F2 h3 => h3 u H2 O2 fp2 g2 S2 E2 I2 R2 (fresh_of E1 F2)
  | false => exact h' (.bl false) H1 O1 fp1 [] S1 E1 I1 ⟨rfl, rfl⟩ fun _ q => (by cases q)
theorem ok_orV (h1 : Ok (RV c) c W b fa ta) (h2 : Ok (RV c) c W b fb tb) : Ok (RV c) c W b (vOrV fa fb) (tOrV ta tb) := fun O fp H ρ σ Q S h => by
  unfold vOrV at h
  rw [bnd_bnd] at h
  refine h1.thn S.tr S .refl (fun _ => .refl) h id fun k ρ1 u H1 O1 fp1 g1 _ S1 E1 _ I1 R1 F1 h' => ?_
  obtain ⟨d, rfl, h'⟩ := Post.asBk h'
  refine ⟨d, R1.1, ?_⟩
  cases d with
  | false =>
    rw [if_neg Bool.false_ne_true]
    have h'' : Post (RV c) c W b O fp H σ (bnd fb ret ρ1) Q := by rw [bnd_ret]; exact h'
    exact h2.thn S.tr S1 E1 I1 h'' id fun k ρ2 u H2 O2 fp2 g2 _ S2 E2 _ I2 R2 F2 h3 => h3 u H2 O2 fp2 g2 S2 E2 I2 R2 (fresh_of E1 F2)
  | true => exact h' (.bl true) H1 O1 fp1 [] S1 E1 I1 ⟨rfl, rfl⟩ fun _ q => (by cases q)
theorem ok_notV (h1 : Ok (RV c) c W b fa ta) : Ok (RV c) c W b (vNotV fa) (tNotV ta) := fun O fp H ρ σ Q S h => by
  unfold vNotV at h
  rw [bnd_bnd] at h
  refine h1.thn S.tr S .refl (fun _ => .refl) h id fun k ρ1 u H1 O1 fp1 g1 _ S1 E1 _ I1 R1 F1 h' => ?_
  obtain ⟨d, rfl, h'⟩ := Post.asBk h'
  exact ⟨d, R1.1, h' (.bl (!d)) H1 O1 fp1 [] S1 E1 I1 ⟨rfl, rfl⟩ fun _ q => (by cases q)⟩
theorem ve_one {op : BoolOp} (h : VE c X W b a fa) : VE c X W b (.BoolOp op [a] pos) fa := by
  obtain ⟨t, p, o⟩ := h
  exact ⟨_, pe_one p, o⟩
theorem ve_and {rest : List Expr} (h1 : VE c X W b a fa) (h2 : VE c X W b (.BoolOp .And (e :: rest) pos) fb) : VE c X W b (.BoolOp .And (a :: e :: rest) pos) (vAndV fa fb) := by
  obtain ⟨t, p, o⟩ := h1
  obtain ⟨t2, p2, o2⟩ := h2
  exact ⟨_, pe_and p p2, ok_andV o o2⟩
theorem ve_or {rest : List Expr} (h1 : VE c X W b a fa) (h2 : VE c X W b (.BoolOp .Or (e :: rest) pos) fb) : VE c X W b (.BoolOp .Or (a :: e :: rest) pos) (vOrV fa fb) := by
  obtain ⟨t, p, o⟩ := h1
  obtain ⟨t2, p2, o2⟩ := h2
  exact ⟨_, pe_or p p2, ok_orV o o2⟩
theorem ve_not (h1 : VE c X W b a fa) : VE c X W b (.UnaryOp .Not a pos) (vNotV fa) := by
  obtain ⟨t, p, o⟩ := h1
  exact ⟨_, pe_not p, ok_notV o⟩
/-- a if t else b -/
def vIf (ft : FG Bool) (fa fb : FE) : FE := bnd ft fun k => if k then fa else fb
theorem ok_if (h1 : Ok RB c W b ft tt) (ha : Ok (RV c) c W b fa ta) (hb : Ok (RV c) c W b fb tb) : Ok (RV c) c W b (vIf ft fa fb) (tIf tt ta tb) := fun O fp H ρ σ Q S h =>
  h1.thn S.tr S .refl (fun _ => .refl) h id fun k ρ1 u H1 O1 fp1 g1 _ S1 E1 _ I1 R1 F1 h' => by
    obtain ⟨e, eg⟩ := R1
    subst e
    cases k with
    | true =>
      rw [if_pos rfl]
      have h'' : Post (RV c) c W b O fp H σ (bnd fa ret ρ1) Q := by rw [bnd_ret]; exact h'
      exact ha.thn S.tr S1 E1 I1 h'' id fun k ρ2 u H2 O2 fp2 g2 _ S2 E2 _ I2 R2 F2 h3 => h3 u H2 O2 fp2 g2 S2 E2 I2 R2 (fresh_of E1 F2)
    | false =>
      rw [if_neg Bool.false_ne_true]
      have h'' : Post (RV c) c W b O fp H σ (bnd fb ret ρ1) Q := by rw [bnd_ret]; exact h'
      exact hb.thn S.tr S1 E1 I1 h'' id fun k ρ2 u H2 O2 fp2 g2 _ S2 E2 _ I2 R2 F2 h3 => h3 u H2 O2 fp2 g2 S2 E2 I2 R2 (fresh_of E1 F2)
theorem ve_if (h1 : VT c X W b a ft) (ha : VE c X W b e fa) (hb : VE c X W b e' fb) : VE c X W b (.IfExp a e e' pos) (vIf ft fa fb) := by
  obtain ⟨t, p, o⟩ := h1
  obtain ⟨t2, p2, o2⟩ := ha
  obtain ⟨t3, p3, o3⟩ := hb
  exact ⟨_, pe_ifExp p p2 p3, ok_if o o2 o3⟩

/-! ### argument lists -/
def vNil : FG (List Val) := ret []
def vCons (fa : FE) (fs : FG (List Val)) : FG (List Val) := bnd fa fun x => bnd fs fun xs => ret (x :: xs)
theorem va_nil : VA c X W b [] vNil := ⟨_, pa_nil, fun O fp H ρ σ Q S h => h [] H O fp [] S .refl (fun _ => .refl) ⟨rfl, rfl⟩ fun _ q => (by cases q)⟩
theorem va_cons (ha : VE c X W b e fa) (hs : VA c X W b es fs) (hst : starEach (e :: es) X.env = (false, eval e X.env) :: starEach es X.env := by rfl) : VA c X W b (e :: es) (vCons fa fs) := by
  obtain ⟨ta, pa, oa⟩ := ha
  obtain ⟨tb, pb, ob⟩ := hs
  refine ⟨_, pa_cons pa pb hst, fun O fp H ρ σ Q S h => ?_⟩
  refine oa.thn S.tr S .refl (fun _ => .refl) h id fun x ρ1 u H1 O1 fp1 g1 _ S1 E1 _ I1 R1 F1 h1 => ?_
  refine ob.thn S.tr S1 E1 I1 h1 id fun xs ρ2 us H2 O2 fp2 g2 _ S2 E2 E12 I2 R2 F2 h2 => ?_
  refine h2 (u :: us) H2 O2 fp2 (g1 ++ g2) S2 E2 I2 ⟨u, us, g1, g2, rfl, R1.per S1 E12, R2, rfl, fun a h1 h2 => (F2 a h2).elim (R1.trk a h1).ne (R1.own a h1).2⟩ fun a ha => ?_
  rcases List.mem_append.mp ha with q | q
  · exact F1 a q
  · exact fresh_of E1 F2 a q
def vws (ρ : Env) : List Val → Option (List D)
  | [] => some []
  | w :: ws => (vw ρ w).bind fun d => (vws ρ ws).map fun ds => d :: ds
def Pks (c : Vc) (O : Addr → Prop) (H : Hp) : List D → List V → Prop
  | [], vs => vs = []
  | d :: ds, vs => ∃ v r, vs = v :: r ∧ Pk c O H d v ∧ Pks c O H ds r
theorem RVs.vws : ∀ {ws : List Val} {us : List V} {g : List Addr} {ds : List D}, RVs c O fp H ρ σ ws us g → SR c O fp H ρ σ → vws ρ ws = some ds → Pks c O H ds us
  | [], _, _, ds, h, _, e => by cases e; exact h.1
  | w :: ws, _, _, ds, ⟨u, r, g1, g2, eu, h, t, _⟩, S, e => by
    unfold Vl.vws at e
    obtain ⟨d, h1, e⟩ := Option.bind_eq_some_iff.mp e
    obtain ⟨ds', h2, e⟩ := Option.map_eq_some_iff.mp e
    subst e
    exact ⟨u, r, eu, h.vw S h1, RVs.vws t S h2⟩
/-- a builtin called: g is what it gives -/
def CaS (c : Vc) (r : List V → Hp → VK → Prop) (g : List D → Option Val) : Prop := ∀ O H vs ds w (Q : VK), (∀ b, O b → nT (H b)) → Pks c O H ds vs → g ds = some w → (∀ u H' gg, PR c O H w u H' gg → Q u H') → r vs H Q
def vn (g : List D → Option Val) (ws : List Val) : FE := fun ρ => match (vws ρ ws).bind g with
  | some w => some (.val w ρ)
  | none => none
def vCall (g : List D → Option Val) (fs : FG (List Val)) : FE := bnd fs fun ws => vn g ws
variable {r : List V → Hp → VK → Prop} {g : List D → Option Val}
theorem Post.opn {Q : V → Hp → Prop} {ws : List Val} {us : List V} {g1 : List Addr} (hr : CaS c r g) (S0 : ∀ b, O b → nT (H b)) (S : SR c O1 fp1 H1 ρ1 σ) (E : Ext fp O H fp1 O1 H1) (I : b = true → Ins H H1) (rx : RVs c O1 fp1 H1 ρ1 σ ws us g1)
    (h : Post (RV c) c W b O fp H σ (vn g ws ρ1) Q) : r us H1 Q := by
  unfold vn at h
  revert h
  cases e : (Vl.vws ρ1 ws).bind g with
  | none => exact fun h => h.elim
  | some w =>
    intro h
    obtain ⟨ds, h1, h2⟩ := Option.bind_eq_some_iff.mp e
    exact hr O1 H1 us ds w Q S.tr (rx.vws S h1) h2 fun u' H' gg p => Post.pr h S0 S E I p
theorem ok_call (hr : CaS c r g) (hs : Ok (RVs c) c W b fs ts) : Ok (RV c) c W b (vCall g fs) (tCB r ts) := fun O fp H ρ σ Q S h =>
  hs.thn S.tr S .refl (fun _ => .refl) h id fun ws ρ1 us H1 O1 fp1 g1 _ S1 E1 _ I1 R1 F1 h1 => Post.opn hr S.tr S1 E1 I1 R1 h1
theorem ve_callB {x : Str} {id : String} {p : Pos} (hc : CallR X (.builtin id) r) (hr : CaS c r g) (hg : Gl X x) (hm : X.mg x = none) (hv : bootBuiltins x = some (.builtin id)) (ha : VA c X W b (e :: es) fs) (hn : x ≠ "__name__" := by decide) (hdb : (x == ("__debug__" : Str)) = false := by decide)
    (he : starEach (e :: es) X.env = (false, eval e X.env) :: starEach es X.env := by rfl) (hpl : (backTo pos (starEach es X.env)).any (·.1) = false := by rfl) : VE c X W b (.Call (.Name x p) (e :: es) [] pos) (vCall g fs) := by
  obtain ⟨ts, ps, os⟩ := ha
  exact ⟨_, pe_callB hc hg hm hv ps hn hdb he hpl, ok_call hr os⟩
theorem ve_callT {x : Str} {T : String} {p : Pos} (hc : CallR X (.type T) r) (hr : CaS c r g) (hg : Gl X x) (hm : X.mg x = none) (hv : bootBuiltins x = some (.type T)) (ha : VA c X W b (e :: es) fs) (hn : x ≠ "__name__" := by decide) (hdb : (x == ("__debug__" : Str)) = false := by decide)
    (he : starEach (e :: es) X.env = (false, eval e X.env) :: starEach es X.env := by rfl) (hpl : (backTo pos (starEach es X.env)).any (·.1) = false := by rfl) : VE c X W b (.Call (.Name x p) (e :: es) [] pos) (vCall g fs) := by
  obtain ⟨ts, ps, os⟩ := ha
  exact ⟨_, pe_callTy hc hg hm hv ps hn hdb he hpl, ok_call hr os⟩

/-! ### displays -/
def fzs : List Val → Option (List D)
  | [] => some []
  | w :: ws => (fz w).bind fun d => (fzs ws).map fun ds => d :: ds
theorem RV.rest {w : Val} {d : D} {u : V} {g : List Addr} (r : RV c O fp H ρ σ w u g) (e : fz w = some d) (hO : ∀ a, O1 a → O a) (hg : ∀ a ∈ g, ¬ O1 a) : RD c O1 H d u := by
  cases w with
  | fr d' => cases e; exact r.1.stb (.less hO)
  | nw t => cases e; exact r.1.rest hO hg
  | al i => cases e
  | pt i j => cases e
theorem RVs.rest : ∀ {ws : List Val} {us : List V} {g : List Addr} {ds : List D}, RVs c O fp H ρ σ ws us g → fzs ws = some ds → (∀ a, O1 a → O a) → (∀ a ∈ g, ¬ O1 a) → RDs c O1 H ds us
  | [], _, _, ds, h, e, _, _ => by cases e; exact h.1
  | w :: ws, _, _, ds, ⟨u, r, g1, g2, eu, h, t, eg, _⟩, e, hO, hg => by
    unfold fzs at e
    obtain ⟨d, h1, e⟩ := Option.bind_eq_some_iff.mp e
    obtain ⟨ds', h2, e⟩ := Option.map_eq_some_iff.mp e
    subst e
    exact ⟨u, r, eu, h.rest h1 hO (fun a ha => hg a (by rw [eg]; simp [ha])), RVs.rest t h2 hO (fun a ha => hg a (by rw [eg]; simp [ha]))⟩
theorem RVs.own : ∀ {ws : List Val} {us : List V} {g : List Addr}, RVs c O fp H ρ σ ws us g → ∀ a ∈ g, O a ∧ a ∉ fp
  | [], _, _, h, a, ha => by rw [h.2] at ha; cases ha
  | _ :: _, _, _, ⟨u, r, g1, g2, e, h, t, eg, dj⟩, a, ha => by
    rw [eg] at ha
    rcases List.mem_append.mp ha with q | q
    · exact h.own a q
    · exact RVs.own t a q
/-- the temporaries g come to rest -/
theorem SR.less {g : List Addr} (S : SR c O fp H ρ σ) (hg : ∀ a ∈ g, a ∉ fp) : SR c (fun a => O a ∧ a ∉ g) fp H ρ σ :=
  ⟨S.rs.stb (.less fun a q => q.1) fun _ _ => rfl, S.nd, fun b hb => ⟨S.ow b hb, fun q => hg b q hb⟩, fun b h => S.tr b h.1, S.tb, fun p hp => (S.px p hp).stb (.less fun a q => q.1)⟩
theorem Ext.less {g : List Addr} (E : Ext fp O H fp1 O1 H1) (S0 : ∀ b, O b → nT (H b)) (F : Fr g fp H) : Ext fp O H fp1 (fun a => O1 a ∧ a ∉ g) H1 :=
  ⟨E.kp, E.th, fun b h n => ⟨E.ok b h n, fun q => (F b q).elim (S0 b h).ne n⟩, fun b h => E.on b h.1, E.fn⟩
def kTup (ws : List Val) : FE := fun ρ => match fzs ws with
  | some ds => if ds.length ≤ 1000 then some (.val (.fr (.tup ds)) ρ) else none
  | none => none
def kLst (ws : List Val) : FE := fun ρ => match fzs ws with
  | some ds => if ds.length ≤ 1000 then some (.val (.nw (.lst ds)) ρ) else none
  | none => none
def vTup (fs : FG (List Val)) : FE := bnd fs kTup
def vLst (fs : FG (List Val)) : FE := bnd fs kLst
theorem le1000 {n : Nat} (h : n ≤ 1000) : n ≤ sizeLine := by rw [sizeLine_eq]; omega
theorem ve_tup {k} (hs : VA c X W b es fs) : VE c X W b (.Tuple es k pos) (vTup fs) := by
  obtain ⟨ts, ps, os⟩ := hs
  refine ⟨_, pe_tup ps, fun O fp H ρ σ Q S h => os.thn S.tr S .refl (fun _ => .refl) h id fun ws ρ1 us H1 O1 fp1 g1 _ S1 E1 _ I1 R1 F1 h1 => ?_⟩
  unfold kTup at h1
  revert h1
  cases e : fzs ws with
  | none => exact fun h => h.elim
  | some ds =>
    intro h1
    by_cases hl : ds.length ≤ 1000
    · simp only [if_pos hl] at h1
      have R := R1.rest (O1 := fun a => O1 a ∧ a ∉ g1) e (fun a q => q.1) (fun a ha q => q.2 ha)
      refine ⟨by rw [R.len]; exact le1000 hl, fun p hp => ?_⟩
      exact Post.pr h1 S.tr (S1.less fun a ha => (R1.own a ha).2) (E1.less S.tr F1) I1 (PR.tup hp (fun b q => S1.tr b q.1) R)
    · simp only [if_neg hl] at h1
      exact h1.elim
theorem ve_lst (hs : VA c X W b es fs) : VE c X W b (.List es pos) (vLst fs) := by
  obtain ⟨ts, ps, os⟩ := hs
  refine ⟨_, pe_lst ps, fun O fp H ρ σ Q S h => os.thn S.tr S .refl (fun _ => .refl) h id fun ws ρ1 us H1 O1 fp1 g1 _ S1 E1 _ I1 R1 F1 h1 => ?_⟩
  unfold kLst at h1
  revert h1
  cases e : fzs ws with
  | none => exact fun h => h.elim
  | some ds =>
    intro h1
    by_cases hl : ds.length ≤ 1000
    · simp only [if_pos hl] at h1
      have R := R1.rest (O1 := fun a => O1 a ∧ a ∉ g1) e (fun a q => q.1) (fun a ha q => q.2 ha)
      refine ⟨by rw [R.len]; exact le1000 hl, fun p hp => ?_⟩
      exact Post.pr h1 S.tr (S1.less fun a ha => (R1.own a ha).2) (E1.less S.tr F1) I1 (PR.lst hp R)
    · simp only [if_neg hl] at h1
      exact h1.elim
/-- a[i] -/
theorem ve_ix {r : R2} {g : D → D → Option Val} (hx : IxR X r) (hr : OpS c r g) (ha : VE c X W b a fa) (hb : VE c X W b e fb) (hp : PlainIx e) : VE c X W b (.Subscript a e pos) (vOp g fa fb) := by
  obtain ⟨ta, pa, oa⟩ := ha
  obtain ⟨tb, pb, ob⟩ := hb
  exact ⟨_, pe_ix hx pa pb hp, ok_op hr oa ob⟩
end
end Vl

namespace Vl
open PySem PySem.Spec PyProof.Rows L2

inductive OutS where
  | nx (ρ : Env) | brk (ρ : Env) | cnt (ρ : Env) | ret (w : Val) (ρ : Env) | exc (x : Exn) (ρ : Env)
abbrev FS := Env → Option OutS
def Bk (bor : List Nat) (σ σ' : L2.St) : Prop := ∀ i ∈ bor, σ'[i]? = σ[i]?
theorem Bk.refl {bor : List Nat} {σ : L2.St} : Bk bor σ σ := fun _ _ => rfl
theorem Bk.trans {bor : List Nat} {σ1 σ2 σ3 : L2.St} (a : Bk bor σ1 σ2) (b : Bk bor σ2 σ3) : Bk bor σ1 σ3 := fun i h => (b i h).trans (a i h)
def PostS (c : Vc) (W : WX) (bor : List Nat) (O : Addr → Prop) (fp : List Addr) (H : Hp) (σ : L2.St) (r : Option OutS) (D : Ends) : Prop := match r with
  | none => False
  | some (.nx ρ') => ∀ σ' H' O' fp', SR c O' fp' H' ρ' σ' → Ext fp O H fp' O' H' → Bk bor σ σ' → D.nx σ' H'
  | some (.brk ρ') => ∀ σ' H' O' fp', SR c O' fp' H' ρ' σ' → Ext fp O H fp' O' H' → Bk bor σ σ' → D.bk σ' H'
  | some (.cnt ρ') => ∀ σ' H' O' fp', SR c O' fp' H' ρ' σ' → Ext fp O H fp' O' H' → Bk bor σ σ' → D.ct σ' H'
  | some (.ret w ρ') => ∀ u σ' H' O' fp' g, SR c O' fp' H' ρ' σ' → Ext fp O H fp' O' H' → Bk bor σ σ' → RV c O' fp' H' ρ' σ' w u g → Fr g fp H → D.rt u H'
  | some (.exc x ρ') => ∀ cls d σ' H' O' fp', SR c O' fp' H' ρ' σ' → Ext fp O H fp' O' H' → Bk bor σ σ' → RX c O' H' x cls d → W cls d σ' H'
def OkS (c : Vc) (W : WX) (bor : List Nat) (f : FS) (ts : TS) : Prop := ∀ O fp H ρ σ D, SR c O fp H ρ σ → PostS c W bor O fp H σ (f ρ) D → ts D σ H
def VS (c : Vc) (X : Cx) (W : WX) (bor : List Nat) (st : Stmt) (f : FS) : Prop := ∃ ts : TS, PS X st ts ∧ OkS c W bor f ts
def VSs (c : Vc) (X : Cx) (W : WX) (bor : List Nat) (st : List Stmt) (f : FS) : Prop := ∃ ts : TS, PSs X st ts ∧ OkS c W bor f ts
section
variable {c : Vc} {X : Cx} {W : WX} {b b1 b2 : Bool} {bor : List Nat} {α β γ δ : Type} {O O1 O2 : Addr → Prop} {fp fp1 fp2 : List Addr} {H H1 H2 : Hp} {ρ ρ1 ρ2 : Env} {σ σ1 : L2.St} {D D' : Ends}
variable {a e e' : Expr} {es : List Expr} {fa fb fc : FE} {pos : Pos} {ta tb : TE} {ft fu : FG Bool} {tt tu : TT} {fs : FG (List Val)} {ts : TA} {f g : FS} {s t : TS} {st : Stmt} {rest : List Stmt}
theorem PostS.shift {r : Option OutS} (E : Ext fp O H fp1 O1 H1) (S0 : ∀ b, O b → nT (H b)) (B : Bk bor σ σ1) (h : PostS c W bor O fp H σ r D) : PostS c W bor O1 fp1 H1 σ1 r D := by
  cases r with
  | none => exact h
  | some o =>
    cases o with
    | nx ρ' => exact fun σ' H' O' fp' S E' B' => h σ' H' O' fp' S (E.trans E' S0) (B.trans B')
    | brk ρ' => exact fun σ' H' O' fp' S E' B' => h σ' H' O' fp' S (E.trans E' S0) (B.trans B')
    | cnt ρ' => exact fun σ' H' O' fp' S E' B' => h σ' H' O' fp' S (E.trans E' S0) (B.trans B')
    | exc x ρ' => exact fun cls d σ' H' O' fp' S E' B' => h cls d σ' H' O' fp' S (E.trans E' S0) (B.trans B')
    | ret w ρ' => exact fun u σ' H' O' fp' g S E' B' R F => h u σ' H' O' fp' g S (E.trans E' S0) (B.trans B') R fun a ha => (F a ha).elim (fun q => .inl (Classical.byContradiction fun z => E.th a z q)) fun q => (E.fn a q).symm
def onNx (r : Option OutS) (k : Env → Option OutS) : Option OutS := match r with
  | some (.nx ρ') => k ρ'
  | r => r
def sNil : FS := fun ρ => some (.nx ρ)
def sSeq (f g : FS) : FS := fun ρ => onNx (f ρ) g
theorem vss_nil : VSs c X W bor [] sNil := ⟨_, pss_nil, fun O fp H ρ σ D S h => h σ H O fp S .refl .refl⟩
theorem ok_seq (h1 : OkS c W bor f s) (h2 : OkS c W bor g t) : OkS c W bor (sSeq f g) (tSeq s t) := fun O fp H ρ σ D S h => by
  refine h1 O fp H ρ σ _ S ?_
  unfold sSeq onNx at h
  revert h
  cases f ρ with
  | none => exact fun h => h
  | some o =>
    cases o with
    | nx ρ' => exact fun h σ' H' O' fp' S' E B => h2 O' fp' H' ρ' σ' D S' (h.shift E S.tr B)
    | brk ρ' => exact fun h => h
    | cnt ρ' => exact fun h => h
    | exc x ρ' => exact fun h => h
    | ret w ρ' => exact fun h => h
theorem vss_cons (h1 : VS c X W bor st f) (h2 : VSs c X W bor rest g) : VSs c X W bor (st :: rest) (sSeq f g) := by
  obtain ⟨s, p, o⟩ := h1
  obtain ⟨t, q, r⟩ := h2
  exact ⟨_, pss_cons p q, ok_seq o r⟩
theorem vss_one (h1 : VS c X W bor st f) : VSs c X W bor [st] f := by
  obtain ⟨s, p, o⟩ := h1
  exact ⟨_, pss_one p, o⟩
theorem vs_pass : VS c X W bor (.Pass pos) sNil := ⟨_, ps_pass, fun O fp H ρ σ D S h => h σ H O fp S .refl .refl⟩
theorem vs_break : VS c X W bor (.Break pos) (fun ρ => some (.brk ρ)) := ⟨_, ps_break, fun O fp H ρ σ D S h => h σ H O fp S .refl .refl⟩
theorem vs_cont : VS c X W bor (.Continue pos) (fun ρ => some (.cnt ρ)) := ⟨_, ps_continue, fun O fp H ρ σ D S h => h σ H O fp S .refl .refl⟩
/-- an expression within a statement -/
def exS {α : Type} (f : FG α) (k : α → FS) : FS := fun ρ => match f ρ with
  | none => none
  | some (.exc x ρ') => some (.exc x ρ')
  | some (.val a ρ') => k a ρ'
theorem Ok.stm {rl : Rl α β} {f : FG α} {te : TEG β} {k : α → FS} {Qx : β → Hp → Prop} (ok : Ok rl c W b1 f te) (S0 : ∀ b, O b → nT (H b)) (S1 : SR c O1 fp1 H1 ρ1 σ1) (E1 : Ext fp O H fp1 O1 H1) (B1 : Bk bor σ σ1)
    (h : PostS c W bor O fp H σ (exS f k ρ1) D)
    (next : ∀ w ρ2 u H2 O2 fp2 g2, SR c O2 fp2 H2 ρ2 σ1 → Ext fp O H fp2 O2 H2 → Ext fp1 O1 H1 fp2 O2 H2 → (b1 = true → Ins H1 H2) → rl O2 fp2 H2 ρ2 σ1 w u g2 → Fr g2 fp1 H1 → PostS c W bor O fp H σ (k w ρ2) D → Qx u H2) :
    te σ1 H1 Qx := by
  refine ok O1 fp1 H1 ρ1 σ1 Qx S1 ?_
  unfold exS at h
  revert h
  cases e : f ρ1 with
  | none => exact fun h => h
  | some o =>
    cases o with
    | exc x ρ' => exact fun h cls d H' O' fp' S E R => h cls d σ1 H' O' fp' S (E1.trans E S0) B1 R
    | val w ρ' => exact fun h u H' O' fp' g S E I R F => next w ρ' u H' O' fp' g S (E1.trans E S0) E I R F h
def sDrop (fa : FE) : FS := exS fa fun _ => sNil
theorem vs_expr (ha : VE c X W false a fa) (hs : swapsWith a none pos.line X.env = pure false := by rfl) : VS c X W bor (.Expr a pos) (sDrop fa) := by
  obtain ⟨ta, pa, oa⟩ := ha
  exact ⟨_, ps_expr pa hs, fun O fp H ρ σ D S h => oa.stm S.tr S .refl .refl h fun x ρ1 u H1 O1 fp1 g1 S1 E1 _ _ R1 F1 h1 => h1 σ H1 O1 fp1 S1 E1 .refl⟩
theorem vs_doc {x j pos pos'} : VS c X W bor (.Expr (.Constant (.str x) j pos) pos') sNil := ⟨_, ps_doc, fun O fp H ρ σ D S h => h σ H O fp S .refl .refl⟩
def sRet (fa : FE) : FS := exS fa fun w ρ => some (.ret w ρ)
theorem vs_ret (ha : VE c X W false a fa) : VS c X W bor (.Return (some a) pos) (sRet fa) := by
  obtain ⟨ta, pa, oa⟩ := ha
  exact ⟨_, ps_ret pa, fun O fp H ρ σ D S h => oa.stm S.tr S .refl .refl h fun x ρ1 u H1 O1 fp1 g1 S1 E1 _ _ R1 F1 h1 => h1 u σ H1 O1 fp1 g1 S1 E1 .refl R1 F1⟩
def sRetN : FS := fun ρ => some (.ret (.fr .non) ρ)
theorem vs_retN : VS c X W bor (.Return none pos) sRetN := ⟨_, ps_retN, fun O fp H ρ σ D S h => h .non σ H O fp [] S .refl .refl ⟨rfl, rfl⟩ fun _ q => (by cases q)⟩
def sIf (ft : FG Bool) (f g : FS) : FS := exS ft fun k => if k then f else g
theorem vs_if {p q : List Stmt} (hc : VT c X W false a ft) (h1 : VSs c X W bor p f) (h2 : VSs c X W bor q g) : VS c X W bor (.If a p q pos) (sIf ft f g) := by
  obtain ⟨tt, pt, ot⟩ := hc
  obtain ⟨s, ps, os⟩ := h1
  obtain ⟨t, pt', ot'⟩ := h2
  refine ⟨_, ps_if pt ps pt', fun O fp H ρ σ D S h => ot.stm S.tr S .refl .refl h fun k ρ1 u H1 O1 fp1 g1 S1 E1 _ _ R1 F1 h1 => ?_⟩
  obtain ⟨e, _⟩ := R1
  subst e
  cases k with
  | true =>
    rw [if_pos rfl]
    exact os O1 fp1 H1 ρ1 σ D S1 (PostS.shift E1 S.tr .refl h1)
  | false =>
    rw [if_neg Bool.false_ne_true]
    exact ot' O1 fp1 H1 ρ1 σ D S1 (PostS.shift E1 S.tr .refl h1)

theorem nmIn {l : List Pin} {i : Nat} (h : (l.all fun p => p.i != i) = true) : i ∉ l.map (·.i) := fun m => by
  obtain ⟨p, hp, e⟩ := List.mem_map.mp m
  have q := List.all_eq_true.mp h p hp
  rw [e] at q
  simp at q
theorem nmAll {l : List Pin} {vs : List Nat} (h : (vs.all fun v => l.all fun p => p.i != v) = true) : ∀ v ∈ vs, v ∉ l.map (·.i) := fun v hv => nmIn (List.all_eq_true.mp h v hv)
/-! ### a slot is stored -/
theorem nodup_put {fl f fr g : List Addr} (nd : (fl ++ f ++ fr).Nodup) (ng : g.Nodup) (dj : ∀ a ∈ g, a ∉ fl ++ f ++ fr) : (fl ++ g ++ fr).Nodup := by
  simp only [List.nodup_append, List.mem_append] at nd ⊢
  obtain ⟨⟨n1, n2, n3⟩, n4, n5⟩ := nd
  refine ⟨⟨n1, ng, fun a ha b hb e => ?_⟩, n4, fun a ha b hb e => ?_⟩
  · subst e; exact dj a hb (by simp [ha])
  · subst e
    rcases ha with ha | ha
    · exact n5 a (.inl ha) a hb rfl
    · exact dj a ha (by simp [hb])
theorem nodup_less {fl f fr : List Addr} (nd : (fl ++ f ++ fr).Nodup) : (fl ++ fr).Nodup := by
  simp only [List.nodup_append, List.mem_append] at nd ⊢
  obtain ⟨⟨n1, n2, n3⟩, n4, n5⟩ := nd
  exact ⟨n1, n4, fun a ha b hb => n5 a (.inl ha) b hb⟩
theorem set_same {α : Type} : ∀ {l : List α} {i : Nat} {x : α}, l[i]? = some x → l.set i x = l
  | [], _, _, h => by simp at h
  | _ :: _, 0, _, h => by simp at h; rw [h]; rfl
  | _ :: l, i + 1, x, h => by
    have := set_same (l := l) (i := i) (x := x) (by simpa using h)
    show _ :: l.set i x = _
    rw [this]
/-- slot i gets a value whose own parts are g, g none of the slots' -/
theorem px_set {i : Nat} {s : Option V} (h : ∀ p ∈ c.xs, PinOk c O H σ p) (hx : i ∉ c.xs.map (·.i)) : ∀ p ∈ c.xs, PinOk c O H (σ.set i s) p := fun p hp => by
  refine ⟨?_, (h p hp).2⟩
  rw [List.getElem?_set_ne (fun e => hx (List.mem_map.mpr ⟨p, hp, e.symm⟩))]
  exact (h p hp).1
theorem SR.put {i : Nat} {t : T} {u : V} {g : List Addr} (S : SR c O fp H ρ σ) (hx : i ∉ c.xs.map (·.i) ∨ σ[i]? = some (some u)) (hi : i < ρ.length) (R : RT c O H t u g) (ng : g.Nodup) (og : ∀ a ∈ g, O a ∧ a ∉ fp) :
    ∃ fp', SR c O fp' H (ρ.set i (some t)) (σ.set i (some u)) ∧ ∀ a ∈ fp', a ∈ fp ∨ a ∈ g := by
  obtain ⟨fl, f, fr, e, h1, _⟩ := S.rs.put hi
  have nd := S.nd
  rw [e] at nd
  refine ⟨fl ++ g ++ fr, ⟨h1 (.less fun a q => q) (fun _ _ => rfl) R, nodup_put nd ng (fun a ha => by rw [← e]; exact (og a ha).2), fun a ha => ?_, S.tr, S.tb, ?_⟩, fun a ha => ?_⟩
  · simp only [List.mem_append] at ha
    rcases ha with (ha | ha) | ha
    · exact S.ow a (by rw [e]; simp [ha])
    · exact (og a ha).1
    · exact S.ow a (by rw [e]; simp [ha])
  · rcases hx with hx | hx
    · exact px_set S.px hx
    · rw [set_same hx]; exact S.px
  · simp only [List.mem_append] at ha
    rcases ha with (ha | ha) | ha
    · exact .inl (by rw [e]; simp [ha])
    · exact .inr ha
    · exact .inl (by rw [e]; simp [ha])
/-- slot i is forgotten -/
theorem SR.del {i : Nat} {s : Option V} (S : SR c O fp H ρ σ) (hx : i ∉ c.xs.map (·.i)) (hi : i < ρ.length) : ∃ fp', SR c O fp' H (ρ.set i none) (σ.set i s) ∧ ∀ a ∈ fp', a ∈ fp := by
  obtain ⟨fl, f, fr, e, _, h1⟩ := S.rs.put hi
  have nd := S.nd
  rw [e] at nd
  refine ⟨fl ++ fr, ⟨h1 (.less fun a q => q) (fun _ _ => rfl), nodup_less nd, fun a ha => S.ow a ?_, S.tr, S.tb, px_set S.px hx⟩, fun a ha => ?_⟩
  all_goals
    simp only [List.mem_append] at ha
    rw [e]
    rcases ha with ha | ha <;> simp [ha]
theorem Ext.put {g fp2 : List Addr} (E : Ext fp O H fp1 O1 H1) (k : ∀ a ∈ fp2, a ∈ fp1 ∨ a ∈ g) (F : Fr g fp H) : Ext fp O H fp2 O1 H1 :=
  ⟨E.kp, E.th, E.ok, E.on, fun a ha => (k a ha).elim (E.fn a) fun q => (F a q).symm⟩
theorem Bk.set {i : Nat} {v : Option V} (h : i ∉ bor) : Bk bor σ (σ.set i v) := fun j hj => by
  rw [List.getElem?_set_ne (fun e => h (by rw [e]; exact hj))]
/-- what is stored: own, or at rest -/
def kSet (i : Nat) (w : Val) : FS := fun ρ => if i < ρ.length then match w with
  | .fr d => some (.nx (ρ.set i (some (.fr d))))
  | .nw t => some (.nx (ρ.set i (some t)))
  | .al _ => none
  | .pt _ _ => none
  else none
def kSetF (i : Nat) (w : Val) : FS := fun ρ => if i < ρ.length then match fz w with
  | some d => some (.nx (ρ.set i (some (.fr d))))
  | none => none
  else none
def sSet (i : Nat) (fa : FE) : FS := exS fa (kSet i)
def sSetF (i : Nat) (fa : FE) : FS := exS fa (kSetF i)
theorem kSet_ok {i : Nat} {w : Val} {u : V} {g1 : List Addr} (hi : i ∉ bor) (hx : i ∉ c.xs.map (·.i)) (h : PostS c W bor O fp H σ (kSet i w ρ1) D) (S1 : SR c O1 fp1 H1 ρ1 σ) (E1 : Ext fp O H fp1 O1 H1) (R1 : RV c O1 fp1 H1 ρ1 σ w u g1) (F1 : Fr g1 fp H) : D.nx (σ.set i (some u)) H1 := by
  unfold kSet at h
  by_cases hl : i < ρ1.length
  · rw [if_pos hl] at h
    cases w with
    | fr d =>
      obtain ⟨fp', S2, k⟩ := S1.put (t := .fr d) (g := []) (.inl hx) hl ⟨R1.1, rfl⟩ .nil (fun _ q => (by cases q))
      exact h _ H1 O1 fp' S2 (E1.put k (fun _ q => (by cases q))) (Bk.set hi)
    | nw t =>
      obtain ⟨fp', S2, k⟩ := S1.put (.inl hx) hl R1.1 R1.2.1 R1.2.2
      exact h _ H1 O1 fp' S2 (E1.put k F1) (Bk.set hi)
    | al j => exact (show False from h).elim
    | pt j k => exact (show False from h).elim
  · rw [if_neg hl] at h
    exact h.elim
theorem kSetF_ok {i : Nat} {w : Val} {u : V} {g1 : List Addr} (hi : i ∉ bor) (hx : i ∉ c.xs.map (·.i)) (h : PostS c W bor O fp H σ (kSetF i w ρ1) D) (S0 : ∀ b, O b → nT (H b)) (S1 : SR c O1 fp1 H1 ρ1 σ) (E1 : Ext fp O H fp1 O1 H1) (R1 : RV c O1 fp1 H1 ρ1 σ w u g1) (F1 : Fr g1 fp H) : D.nx (σ.set i (some u)) H1 := by
  unfold kSetF at h
  by_cases hl : i < ρ1.length
  · rw [if_pos hl] at h
    revert h
    cases e : fz w with
    | none => exact fun h => h.elim
    | some d =>
      intro h
      have R := R1.rest (O1 := fun a => O1 a ∧ a ∉ g1) e (fun a q => q.1) (fun a ha q => q.2 ha)
      obtain ⟨fp', S2, k⟩ := (S1.less fun a ha => (R1.own a ha).2).put (t := .fr d) (g := []) (.inl hx) hl ⟨R, rfl⟩ .nil (fun _ q => (by cases q))
      exact h _ H1 _ fp' S2 ((E1.less S0 F1).put k (fun _ q => (by cases q))) (Bk.set hi)
  · rw [if_neg hl] at h
    exact h.elim
theorem vs_set {i : Nat} {x : Str} {pos' : Pos} (hN : X.N.Nodup) (hx : X.N[i]? = some x) (hl : Loc X.env.scope x) (ha : VE c X W false a fa) (hi : i ∉ bor := by decide) (hxs : i ∉ c.xs.map (·.i) := by exact nmIn rfl) (hs : swapsWith a (some (.Name x pos')) pos.line X.env = pure false := by rfl) (hf : X.fn x = true ∨ X.env.scope.names.lookup x = some .local := by first | exact .inl rfl | exact .inr rfl | assumption) :
    VS c X W bor (.Assign [.Name x pos'] a pos) (sSet i fa) := by
  obtain ⟨ta, pa, oa⟩ := ha
  exact ⟨_, ps_set hN hx hl pa hs hf, fun O fp H ρ σ D S h => oa.stm S.tr S .refl .refl h fun x ρ1 u H1 O1 fp1 g1 S1 E1 _ _ R1 F1 h1 => kSet_ok hi hxs h1 S1 E1 R1 F1⟩
theorem vs_setF {i : Nat} {x : Str} {pos' : Pos} (hN : X.N.Nodup) (hx : X.N[i]? = some x) (hl : Loc X.env.scope x) (ha : VE c X W false a fa) (hi : i ∉ bor := by decide) (hxs : i ∉ c.xs.map (·.i) := by exact nmIn rfl) (hs : swapsWith a (some (.Name x pos')) pos.line X.env = pure false := by rfl) (hf : X.fn x = true ∨ X.env.scope.names.lookup x = some .local := by first | exact .inl rfl | exact .inr rfl | assumption) :
    VS c X W bor (.Assign [.Name x pos'] a pos) (sSetF i fa) := by
  obtain ⟨ta, pa, oa⟩ := ha
  exact ⟨_, ps_set hN hx hl pa hs hf, fun O fp H ρ σ D S h => oa.stm S.tr S .refl .refl h fun x ρ1 u H1 O1 fp1 g1 S1 E1 _ _ R1 F1 h1 => kSetF_ok hi hxs h1 S.tr S1 E1 R1 F1⟩

/-! ### a slot comes to rest -/
def frzE (i : Nat) (ρ : Env) : Env := match ρ[i]? with
  | some (some t) => ρ.set i (some (.fr t.toD))
  | _ => ρ
theorem SR.frz (i : Nat) (S : SR c O fp H ρ σ) : ∃ O' fp', SR c O' fp' H (frzE i ρ) σ ∧ Ext fp O H fp' O' H := by
  unfold frzE
  cases e : ρ[i]? with
  | none => exact ⟨O, fp, S, .refl⟩
  | some o =>
    cases o with
    | none => exact ⟨O, fp, S, .refl⟩
    | some t =>
      obtain ⟨v, f, fl, fr, h1, h2, h3, h4, _⟩ := S.rs.get e
      have nd := S.nd
      rw [h3] at nd
      have dj : ∀ a ∈ fl ++ fr, a ∉ f := by
        simp only [List.nodup_append, List.mem_append] at nd ⊢
        rintro a (ha | ha) hf
        · exact nd.1.2.2 a ha a hf rfl
        · exact nd.2.2 a (.inr hf) a ha rfl
      have R := h2.rest (O' := fun a => O a ∧ a ∉ f) (fun a q => q.1) (fun a ha q => q.2 ha)
      have es : σ.set i (some v) = σ := set_same h1
      refine ⟨fun a => O a ∧ a ∉ f, fl ++ [] ++ fr, ⟨?_, by rw [List.append_nil]; exact nodup_less nd, fun a ha => ?_, fun a q => S.tr a q.1, S.tb, fun p hp => (S.px p hp).stb (.less fun a q => q.1)⟩, ⟨fun _ _ _ => rfl, fun _ q => q, fun a q n => ⟨q, fun z => n (by rw [h3]; simp [z])⟩, fun a q => .inl q.1, fun a ha => .inl ?_⟩⟩
      · have q := h4 (O' := fun a => O a ∧ a ∉ f) (H' := H) (t' := .fr t.toD) (v' := v) (f' := []) (.less fun a q => q.1) (fun _ _ => rfl) ⟨R, rfl⟩
        rw [es] at q
        exact q
      · rw [List.append_nil] at ha
        refine ⟨S.ow a ?_, dj a ha⟩
        rw [h3]
        simp only [List.mem_append] at ha ⊢
        rcases ha with ha | ha <;> simp [ha]
      · rw [List.append_nil] at ha
        rw [h3]
        simp only [List.mem_append] at ha ⊢
        rcases ha with ha | ha <;> simp [ha]
def sFrz (i : Nat) (f : FS) : FS := fun ρ => f (frzE i ρ)
theorem OkS.frz (i : Nat) (h : OkS c W bor f s) : OkS c W bor (sFrz i f) s := fun O fp H ρ σ D S p => by
  obtain ⟨O', fp', S', E⟩ := S.frz i
  exact h O' fp' H _ σ D S' (PostS.shift E S.tr .refl p)
theorem VS.frz (i : Nat) (h : VS c X W bor st f) : VS c X W bor st (sFrz i f) := by
  obtain ⟨s, p, o⟩ := h
  exact ⟨s, p, o.frz i⟩
theorem VSs.frz (i : Nat) (h : VSs c X W bor rest f) : VSs c X W bor rest (sFrz i f) := by
  obtain ⟨s, p, o⟩ := h
  exact ⟨s, p, o.frz i⟩
end
end Vl

namespace Vl
open PySem PySem.Spec PyProof.Rows L2
section
variable {c : Vc} {X : Cx} {W : WX} {b b1 b2 : Bool} {bor : List Nat} {α β γ δ : Type} {O O1 O2 : Addr → Prop} {fp fp1 fp2 : List Addr} {H H1 H2 : Hp} {ρ ρ1 ρ2 : Env} {σ σ1 : L2.St}
variable {a e e' tg iter : Expr} {es : List Expr} {fa fb fc : FE} {pos : Pos} {ta tb : TE} {ft fu : FG Bool} {tt tu : TT} {fs : FG (List Val)} {ts : TA} {f g : FS} {s t : TS} {st : Stmt} {rest body : List Stmt}
/-! ### targets -/
/-- what a target does with a thing at rest -/
abbrev FT := D → Env → Option Env
def OkG (c : Vc) (K : PySem.W.Frag) (bor : List Nat) (gt : FT) (g : TG) : Prop := ∀ O fp H ρ σ d v ρ' (Q : L2.St → Hp → Prop), SR c O fp H ρ σ → RD c O H d v → gt d ρ = some ρ' →
  (∀ σ' fp', SR c O fp' H ρ' σ' → (∀ a ∈ fp', a ∈ fp) → Bk bor σ σ' → Q σ' H) → g v σ H Q
def VG (c : Vc) (X : Cx) (bor : List Nat) (tg : Expr) (gt : FT) : Prop := ∃ g : TG, PG X tg g ∧ OkG c X.K bor gt g
def gN (i : Nat) : FT := fun d ρ => if i < ρ.length then some (ρ.set i (some (.fr d))) else none
theorem vg_name {i : Nat} {x : Str} (hN : X.N.Nodup) (hx : X.N[i]? = some x) (hl : Loc X.env.scope x) (hi : i ∉ bor := by decide) (hxs : i ∉ c.xs.map (·.i) := by exact nmIn rfl) (hf : X.fn x = true ∨ X.env.scope.names.lookup x = some .local := by first | exact .inl rfl | exact .inr rfl | assumption) : VG c X bor (.Name x pos) (gN i) :=
  ⟨_, pg_name hN hx hl hf, fun O fp H ρ σ d v ρ' Q S r e h => by
    unfold gN at e
    split at e
    · rename_i hl
      cases e
      obtain ⟨fp', S2, k⟩ := S.put (t := .fr d) (g := []) (.inl hxs) hl ⟨r, rfl⟩ .nil (fun _ q => (by cases q))
      exact h _ fp' S2 (fun a ha => (k a ha).elim id fun q => (by cases q)) (Bk.set hi)
    · cases e⟩
abbrev FTs := List D → Env → Option Env
def OkGs (c : Vc) (K : PySem.W.Frag) (bor : List Nat) (gt : FTs) (g : TGs) : Prop := ∀ O fp H ρ σ ds vs ρ' (Q : L2.St → Hp → Prop), SR c O fp H ρ σ → RDs c O H ds vs → gt ds ρ = some ρ' →
  (∀ σ' fp', SR c O fp' H ρ' σ' → (∀ a ∈ fp', a ∈ fp) → Bk bor σ σ' → Q σ' H) → g vs σ H Q
def VGs (c : Vc) (X : Cx) (bor : List Nat) (tg : List Expr) (gt : FTs) : Prop := ∃ g : TGs, PGs X tg g ∧ OkGs c X.K bor gt g
def gsN : FTs := fun ds ρ => match ds with | [] => some ρ | _ => none
def gsC (g : FT) (gs : FTs) : FTs := fun ds ρ => match ds with | d :: ds => (g d ρ).bind (gs ds) | _ => none
theorem vgs_nil : VGs c X bor [] gsN := ⟨_, pgs_nil, fun O fp H ρ σ ds vs ρ' Q S r e h => by
  cases ds with
  | nil => cases e; exact ⟨r, h σ fp S (fun _ q => q) .refl⟩
  | cons d ds => cases e⟩
theorem vgs_cons {g1 : FT} {g2 : FTs} (h1 : VG c X bor e g1) (h2 : VGs c X bor es g2) (hs : (assignEach (e :: es) X.env).map (·.2) = assign e X.env :: (assignEach es X.env).map (·.2) := by rfl) : VGs c X bor (e :: es) (gsC g1 g2) := by
  obtain ⟨t1, p1, o1⟩ := h1
  obtain ⟨t2, p2, o2⟩ := h2
  refine ⟨_, pgs_cons p1 p2 hs, fun O fp H ρ σ ds vs ρ' Q S r e h => ?_⟩
  cases ds with
  | nil => cases e
  | cons d ds =>
    obtain ⟨ρ1, e1, e2⟩ := Option.bind_eq_some_iff.mp e
    obtain ⟨v, vs', ev, r1, r2⟩ := r
    exact ⟨v, vs', ev, o1 O fp H ρ σ d v ρ1 _ S r1 e1 fun σ1 fp1 S1 k1 B1 => o2 O fp1 H ρ1 σ1 ds vs' ρ' Q S1 r2 e2 fun σ2 fp2 S2 k2 B2 => h σ2 fp2 S2 (fun a ha => k1 a (k2 a ha)) (B1.trans B2)⟩
def gT (gs : FTs) : FT := fun d ρ => match d with | .tup ds => gs ds ρ | _ => none
theorem vg_tup {k n : Nat} {gs : FTs} (hK : X.K = c.K) (hc : X.calm = true) (h : VGs c X bor es gs) (hl : ∀ ds ρ ρ', gs ds ρ = some ρ' → ds.length = n) (hn : (assignEach es X.env).length = n := by rfl) (hst : (assignEach es X.env).findIdx? (·.1) = none := by rfl) : VG c X bor (.Tuple es k pos) (gT gs) := by
  obtain ⟨t, p, o⟩ := h
  refine ⟨_, pg_tup hc p hn hst, fun O fp H ρ σ d v ρ' Q S r e h => ?_⟩
  cases d with
  | tup ds =>
    obtain ⟨a, vs, ev, hs, rs⟩ := r
    exact ⟨a, vs, ev, sqT_of hs.1, by rw [rs.len]; exact hl _ _ _ e, o O fp H ρ σ ds vs ρ' Q S rs e h⟩
  | _ => cases e

/-! ### what is walked -/
/-- the walk gives the items ds, one a turn -/
structure Yl (c : Vc) (J : It) (ds : List D) (O : Addr → Prop) (fp : List Addr) (H : Hp) : Prop where
  go : ∀ O2 fp2 H2 i d, Ext fp O H fp2 O2 H2 → (∀ b ∈ fp2, O2 b) → (∀ b, O2 b → nT (H2 b)) → ds[i]? = some d → J.go i H2 ∧ ∀ x H3, J.yld i H2 x H3 → (∀ b, H2 b ≠ none → H3 b = H2 b) ∧ RD c O2 H3 d x
  stop : ∀ O2 fp2 H2, Ext fp O H fp2 O2 H2 → (∀ b, O2 b → nT (H2 b)) → J.stop ds.length H2
def PostI (c : Vc) (W : WX) (O : Addr → Prop) (fp : List Addr) (H : Hp) (σ : L2.St) (r : Option (Out (List D))) (R : It → Hp → Prop) : Prop := match r with
  | none => False
  | some (.exc x ρ') => ∀ cls d H' O' fp', SR c O' fp' H' ρ' σ → Ext fp O H fp' O' H' → RX c O' H' x cls d → W cls d σ H'
  | some (.val ds ρ') => ∀ J H' O' fp', SR c O' fp' H' ρ' σ → Ext fp O H fp' O' H' → Yl c J ds O' fp' H' → R J H'
def OkI (c : Vc) (W : WX) (fi : FG (List D)) (wi : TI) : Prop := ∀ O fp H ρ σ R, SR c O fp H ρ σ → PostI c W O fp H σ (fi ρ) R → wi σ H R
theorem Ok.itr {rl : Rl α β} {f : FG α} {te : TEG β} {k : α → FG (List D)} {R : It → Hp → Prop} {Qx : β → Hp → Prop} (ok : Ok rl c W b f te) (S : SR c O fp H ρ σ) (h : PostI c W O fp H σ (bnd f k ρ) R)
    (next : ∀ w ρ2 u H2 O2 fp2 g2, SR c O2 fp2 H2 ρ2 σ → Ext fp O H fp2 O2 H2 → rl O2 fp2 H2 ρ2 σ w u g2 → Fr g2 fp H → PostI c W O fp H σ (k w ρ2) R → Qx u H2) : te σ H Qx := by
  refine ok O fp H ρ σ Qx S ?_
  unfold bnd at h
  revert h
  cases e : f ρ with
  | none => exact fun h => h
  | some o =>
    cases o with
    | exc x ρ' => exact fun h => h
    | val w ρ' => exact fun h u H' O' fp' g S E I R F => next w ρ' u H' O' fp' g S E R F h
def VI (c : Vc) (X : Cx) (W : WX) (tg iter : Expr) (fi : FG (List D)) : Prop := ∃ wi : TI, PI X tg iter wi ∧ OkI c W fi wi
def asL (w : Val) : FG (List D) := fun ρ => match fz w with
  | some (.lst ds) => some (.val ds ρ)
  | some (.klst ds) => some (.val ds ρ)
  | _ => none
def asTu (w : Val) : FG (List D) := fun ρ => match fz w with
  | some (.tup ds) => some (.val ds ρ)
  | some (.ktup ds) => some (.val ds ρ)
  | _ => none
theorem RDs.get : ∀ {ds : List D} {vs : List V} {i : Nat} {d : D}, RDs c O H ds vs → ds[i]? = some d → ∃ v, vs[i]? = some v ∧ RD c O H d v
  | [], _, _, _, _, h => by simp at h
  | _ :: _, _, 0, d, ⟨v, r, e, h, t⟩, q => by
    simp at q; subst q
    exact ⟨v, by rw [e]; rfl, h⟩
  | _ :: _, _, i + 1, d, ⟨v, r, e, h, t⟩, q => by
    obtain ⟨v', h1, h2⟩ := RDs.get (i := i) t (by simpa using q)
    exact ⟨v', by rw [e]; simpa using h1, h2⟩
/-- a list at rest: the turn's own reading gives the item whatever list stands there -/
theorem yl_list {a : Addr} {vs : List V} {ds : List D} (h : H a = some (.lst vs) ∧ ¬ O a) (r : RDs c O H ds vs) (ow : ∀ b ∈ fp, O b) : Yl c (Itl c.K a) ds O fp H where
  go := fun O2 fp2 H2 i d E _ tr e => by
    have s := E.stb ow
    obtain ⟨v, e1, r1⟩ := (r.stb s).get e
    have h2 := (s.1 a h.2 (.of h.1)).2.2.2.1 _ h.1
    refine ⟨⟨vs, v, sqL_of h2, e1⟩, fun x H3 y => ?_⟩
    obtain ⟨e2, y⟩ := y
    subst e2
    have e3 := y vs (sqL_of h2)
    rw [e1] at e3
    cases e3
    exact ⟨fun _ _ => rfl, r1⟩
  stop := fun O2 fp2 H2 E tr => ⟨vs, sqL_of (((E.stb ow).1 a h.2 (.of h.1)).2.2.2.1 _ h.1), by rw [r.len]; exact Nat.le_refl _⟩
theorem yl_tup {a : Addr} {vs : List V} {ds : List D} (h : H a = some (.tup vs) ∧ ¬ O a) (r : RDs c O H ds vs) (ow : ∀ b ∈ fp, O b) : Yl c (Itt c.K a) ds O fp H where
  go := fun O2 fp2 H2 i d E _ tr e => by
    have s := E.stb ow
    obtain ⟨v, e1, r1⟩ := (r.stb s).get e
    have h2 := (s.1 a h.2 (.of h.1)).2.1 _ h.1
    refine ⟨⟨vs, v, sqT_of h2, e1⟩, fun x H3 y => ?_⟩
    obtain ⟨e2, y⟩ := y
    subst e2
    have e3 := y vs (sqT_of h2)
    rw [e1] at e3
    cases e3
    exact ⟨fun _ _ => rfl, r1⟩
  stop := fun O2 fp2 H2 E tr => ⟨vs, sqT_of (((E.stb ow).1 a h.2 (.of h.1)).2.1 _ h.1), by rw [r.len]; exact Nat.le_refl _⟩
theorem yl_ktup {a : Addr} {vs : List V} {ds : List D} (h : KTp c.K a vs) (r : RDs c O H ds vs) (ow : ∀ b ∈ fp, O b) : Yl c (Itt c.K a) ds O fp H where
  go := fun O2 fp2 H2 i d E _ tr e => by
    have s := E.stb ow
    obtain ⟨v, e1, r1⟩ := (r.stb s).get e
    refine ⟨⟨vs, v, .inr h, e1⟩, fun x H3 y => ?_⟩
    obtain ⟨e2, y⟩ := y
    subst e2
    have e3 := y vs (.inr h)
    rw [e1] at e3
    cases e3
    exact ⟨fun _ _ => rfl, r1⟩
  stop := fun O2 fp2 H2 E tr => ⟨vs, .inr h, by rw [r.len]; exact Nat.le_refl _⟩
theorem yl_klst {a : Addr} {vs : List V} {ds : List D} (h : KL c.K a vs ∨ Fz O H a (.lst vs)) (r : RDs c O H ds vs) (ow : ∀ b ∈ fp, O b) : Yl c (Itl c.K a) ds O fp H where
  go := fun O2 fp2 H2 i d E _ tr e => by
    have s := E.stb ow
    obtain ⟨v, e1, r1⟩ := (r.stb s).get e
    have h2 := sqK_of (h.imp id fun q => q.stb s)
    refine ⟨⟨vs, v, h2, e1⟩, fun x H3 y => ?_⟩
    obtain ⟨e2, y⟩ := y
    subst e2
    have e3 := y vs h2
    rw [e1] at e3
    cases e3
    exact ⟨fun _ _ => rfl, r1⟩
  stop := fun O2 fp2 H2 E tr => ⟨vs, sqK_of (h.imp id fun q => q.stb (E.stb ow)), by rw [r.len]; exact Nat.le_refl _⟩
theorem vi_list (hK : X.K = c.K) (ha : VE c X W false iter fa) : VI c X W tg iter (bnd fa asL) := by
  obtain ⟨ta, pa, oa⟩ := ha
  refine ⟨_, pi_list pa, fun O fp H ρ σ R S h => oa.itr S h fun w ρ' u H' O' fp' g S' E r F h => ?_⟩
  cases e : fz w with
  | none => simp only [asL, e] at h; exact h.elim
  | some d =>
    cases d with
    | lst ds =>
      simp only [asL, e] at h
      obtain ⟨p, vs, eu, h1, r1⟩ := r.rest (O1 := fun a => O' a ∧ a ∉ g) e (fun a q => q.1) (fun a ha q => q.2 ha)
      have S2 := S'.less fun a ha => (r.own a ha).2
      rw [hK]
      exact ⟨p, eu, ⟨vs, sqL_of h1.1⟩, h _ H' _ fp' S2 (E.less S.tr F) (yl_list h1 r1 S2.ow)⟩
    | klst ds =>
      simp only [asL, e] at h
      obtain ⟨p, vs, eu, h1, r1⟩ := r.rest (O1 := fun a => O' a ∧ a ∉ g) e (fun a q => q.1) (fun a ha q => q.2 ha)
      have S2 := S'.less fun a ha => (r.own a ha).2
      rw [hK]
      exact ⟨p, eu, ⟨vs, sqK_of h1⟩, h _ H' _ fp' S2 (E.less S.tr F) (yl_klst h1 r1 S2.ow)⟩
    | _ => simp only [asL, e] at h; exact h.elim
theorem vi_tup (hK : X.K = c.K) (ha : VE c X W false iter fa) : VI c X W tg iter (bnd fa asTu) := by
  obtain ⟨ta, pa, oa⟩ := ha
  refine ⟨_, pi_tup pa, fun O fp H ρ σ R S h => oa.itr S h fun w ρ' u H' O' fp' g S' E r F h => ?_⟩
  cases e : fz w with
  | none => simp only [asTu, e] at h; exact h.elim
  | some d =>
    cases d with
    | tup ds =>
      simp only [asTu, e] at h
      obtain ⟨p, vs, eu, h1, r1⟩ := r.rest (O1 := fun a => O' a ∧ a ∉ g) e (fun a q => q.1) (fun a ha q => q.2 ha)
      have S2 := S'.less fun a ha => (r.own a ha).2
      rw [hK]
      exact ⟨p, eu, ⟨vs, sqT_of h1.1⟩, h _ H' _ fp' S2 (E.less S.tr F) (yl_tup h1 r1 S2.ow)⟩
    | ktup ds =>
      simp only [asTu, e] at h
      obtain ⟨p, vs, eu, h1, r1⟩ := r.rest (O1 := fun a => O' a ∧ a ∉ g) e (fun a q => q.1) (fun a ha q => q.2 ha)
      have S2 := S'.less fun a ha => (r.own a ha).2
      rw [hK]
      exact ⟨p, eu, ⟨vs, .inr h1⟩, h _ H' _ fp' S2 (E.less S.tr F) (yl_ktup h1 r1 S2.ow)⟩
    | _ => simp only [asTu, e] at h; exact h.elim
def rngD (lo : Int) (n : Nat) : List D := (List.range n).map fun i => .int (lo + (i : Nat))
theorem rngD_get {lo : Int} {n i : Nat} : (rngD lo n)[i]? = if i < n then some (.int (lo + i)) else none := by
  unfold rngD
  rw [List.getElem?_map]
  by_cases h : i < n
  · rw [List.getElem?_range h, if_pos h]; rfl
  · rw [List.getElem?_eq_none (by simpa using h), if_neg h]; rfl
theorem yl_rng {lo : Int} {n : Nat} : Yl c (Itr lo n) (rngD lo n) O fp H where
  go := fun O2 fp2 H2 i d E _ tr e => by
    rw [rngD_get] at e
    split at e
    · rename_i hi
      cases e
      exact ⟨hi, fun x H3 ⟨e1, e2⟩ => by subst e1 e2; exact ⟨fun _ _ => rfl, rfl⟩⟩
    · cases e
  stop := fun O2 fp2 H2 E tr => by
    have e : (rngD lo n).length = n := by simp [rngD]
    rw [e]
    exact Nat.le_refl _
def small62 (i : Int) : Bool := decide (i.natAbs ≤ 4611686018427387903)
theorem small62_ok {i : Int} (h : small62 i = true) : -(2 ^ 62) ≤ i ∧ i < 2 ^ 62 := by
  have h := of_decide_eq_true h
  omega
def dR1 : List Val → Option (List D)
  | [.fr (.int j)] => if small62 j then some (rngD 0 j.toNat) else none
  | _ => none
def dR2 : List Val → Option (List D)
  | [.fr (.int i), .fr (.int j)] => if small62 i && small62 j then some (rngD i (j - i).toNat) else none
  | _ => none
theorem dR1_some {ws : List Val} {ds : List D} (h : dR1 ws = some ds) : ∃ j, ws = [.fr (.int j)] ∧ small62 j = true ∧ ds = rngD 0 j.toNat := by
  unfold dR1 at h
  split at h
  · rename_i j
    split at h
    · rename_i hj; cases h; exact ⟨j, rfl, hj, rfl⟩
    · cases h
  · cases h
theorem dR2_some {ws : List Val} {ds : List D} (h : dR2 ws = some ds) : ∃ i j, ws = [.fr (.int i), .fr (.int j)] ∧ small62 i = true ∧ small62 j = true ∧ ds = rngD i (j - i).toNat := by
  unfold dR2 at h
  split at h
  · rename_i i j
    split at h
    · rename_i hj; cases h; rw [Bool.and_eq_true] at hj; exact ⟨i, j, rfl, hj.1, hj.2, rfl⟩
    · cases h
  · cases h
def optF (o : Option α) : FG α := fun ρ => match o with
  | some a => some (.val a ρ)
  | none => none
theorem PostI.opt {o : Option (List D)} {R : It → Hp → Prop} (h : PostI c W O fp H σ (optF o ρ) R) : ∃ ds, o = some ds ∧ PostI c W O fp H σ (some (.val ds ρ)) R := by
  cases o with
  | none => exact h.elim
  | some ds => exact ⟨ds, rfl, h⟩
theorem vi_range1 {p : Pos} (hm : X.mg "range" = none) (ha : VA c X W false [a] fs) (hg : Gl X "range" := by rfl) (hs : starEach [a] X.env = [(false, eval a X.env)] := by rfl) : VI c X W tg (.Call (.Name "range" p) [a] [] pos) (bnd fs fun ws => optF (dR1 ws)) := by
  obtain ⟨ta, pa, oa⟩ := ha
  refine ⟨_, pi_range1 hg hm pa hs, fun O fp H ρ σ R S h => oa.itr S h fun ws ρ' us H' O' fp' g S' E r F h => ?_⟩
  obtain ⟨ds, e, h⟩ := PostI.opt h
  obtain ⟨j, rfl, hj, rfl⟩ := dR1_some e
  obtain ⟨u, r', g1, g2, eu, h1, h2, _⟩ := r
  obtain rfl : u = .int j := h1.1
  obtain rfl : r' = [] := h2.1
  exact ⟨j, eu, (small62_ok hj).1, (small62_ok hj).2, h _ H' O' fp' S' E yl_rng⟩
theorem vi_range2 {p : Pos} (hm : X.mg "range" = none) (ha : VA c X W false [a, e] fs) (hg : Gl X "range" := by rfl) (hs : starEach [a, e] X.env = [(false, eval a X.env), (false, eval e X.env)] := by rfl) (hs2 : starEach [e] X.env = [(false, eval e X.env)] := by rfl) : VI c X W tg (.Call (.Name "range" p) [a, e] [] pos) (bnd fs fun ws => optF (dR2 ws)) := by
  obtain ⟨ta, pa, oa⟩ := ha
  refine ⟨_, pi_range2 hg hm pa hs hs2, fun O fp H ρ σ R S h => oa.itr S h fun ws ρ' us H' O' fp' g S' E r F h => ?_⟩
  obtain ⟨ds, e, h⟩ := PostI.opt h
  obtain ⟨i, j, rfl, hi, hj, rfl⟩ := dR2_some e
  obtain ⟨u, r', g1, g2, eu, h1, h2, _⟩ := r
  obtain ⟨u2, r2, g3, g4, eu2, h3, h4, _⟩ := h2
  obtain rfl : u = .int i := h1.1
  obtain rfl : u2 = .int j := h3.1
  obtain rfl : r2 = [] := h4.1
  exact ⟨i, j, by rw [eu, eu2], ⟨(small62_ok hi).1, (small62_ok hi).2, (small62_ok hj).1, (small62_ok hj).2⟩, h _ H' O' fp' S' E yl_rng⟩

/-! ### for -/
def loopD (gt : FT) (f : FS) : List D → FS
  | [] => fun ρ => some (.nx ρ)
  | d :: ds => fun ρ => match gt d ρ with
    | none => none
    | some ρ1 => match f ρ1 with
      | some (.nx ρ2) => loopD gt f ds ρ2
      | some (.cnt ρ2) => loopD gt f ds ρ2
      | some (.brk ρ2) => some (.nx ρ2)
      | r => r
def sFor (fi : FG (List D)) (gt : FT) (f : FS) : FS := exS fi fun ds => loopD gt f ds
theorem ok_for {wi : TI} {g : TG} (hi : OkI c W fi wi) (hg : OkG c X.K bor gt g) (hb : OkS c W bor f t) : OkS c W bor (sFor fi gt f) (tFor wi g t) := fun O fp H ρ σ D S h => by
  refine hi O fp H ρ σ _ S ?_
  unfold sFor exS at h
  revert h
  cases fi ρ with
  | none => exact fun h => h
  | some o =>
    cases o with
    | exc x ρ' => exact fun h cls d H' O' fp' S' E R => h cls d σ H' O' fp' S' E .refl R
    | val ds ρ' =>
      intro h J H1 O1 fp1 S1 E1 Y
      refine ⟨fun i m σ' H' => m = ds.length - i ∧ i ≤ ds.length ∧ ∃ O' fp' ρ', SR c O' fp' H' ρ' σ' ∧ Ext fp1 O1 H1 fp' O' H' ∧ Bk bor σ σ' ∧ PostS c W bor O' fp' H' σ' (loopD gt f (ds.drop i) ρ') D, ⟨_, rfl, Nat.zero_le _, O1, fp1, ρ', S1, .refl, .refl, h.shift E1 S.tr .refl⟩, ?_⟩
      rintro i m σ' H' ⟨rfl, hi, O', fp', ρ', S', E', B', h'⟩
      by_cases hlt : i < ds.length
      · have e := List.getElem?_eq_getElem hlt
        obtain ⟨go, yl⟩ := Y.go O' fp' H' i _ E' S'.ow S'.tr e
        refine .inr ⟨go, fun σ2 H2 => ∃ O2 fp2 ρ2, SR c O2 fp2 H2 ρ2 σ2 ∧ Ext fp1 O1 H1 fp2 O2 H2 ∧ Bk bor σ σ2 ∧ PostS c W bor O2 fp2 H2 σ2 (loopD gt f (ds.drop (i + 1)) ρ2) D, fun σ2 H2 ⟨O2, fp2, ρ2, q1, q2, q3, q4⟩ => ⟨ds.length - (i + 1), by omega, rfl, hlt, O2, fp2, ρ2, q1, q2, q3, q4⟩, fun x H3 y => ?_⟩
        obtain ⟨kp, rd⟩ := yl x H3 y
        have S3 : SR c O' fp' H3 ρ' σ' := ⟨S'.rs.stb (.of (fun a _ h => kp a h.ne) fun a h => .inl h) fun a ha => kp a (S'.tr a (S'.ow a ha)).ne, S'.nd, S'.ow, fun b h => by rw [kp b (S'.tr b h).ne]; exact S'.tr b h, fun P hP => by
          obtain ⟨ps, e, k⟩ := S'.tb P hP
          exact ⟨ps, by rw [kp P (by rw [e]; simp)]; exact e, k⟩, fun p hp => (S'.px p hp).stb (.of (fun a _ h => kp a h.ne) fun a h => .inl h)⟩
        have E3 : Ext fp' O' H' fp' O' H3 := ⟨fun b h _ => kp b h.ne, fun b h => by rw [kp b h]; exact h, fun _ h _ => h, fun _ h => .inl h, fun _ h => .inl h⟩
        rw [List.drop_eq_getElem_cons hlt] at h'
        unfold loopD at h'
        revert h'
        cases eg : gt ds[i] ρ' with
        | none => exact fun h => h.elim
        | some ρ2 =>
          intro h'
          refine hg O' fp' H3 ρ' σ' _ x ρ2 _ S3 rd eg fun σ4 fp4 S4 k4 B4 => ?_
          have E4 : Ext fp' O' H' fp4 O' H3 := ⟨E3.kp, E3.th, E3.ok, E3.on, fun a ha => .inl (k4 a ha)⟩
          have h4 := h'.shift E4 S'.tr B4
          have E14 : Ext fp1 O1 H1 fp4 O' H3 := E'.trans E4 S1.tr
          refine hb O' fp4 H3 ρ2 σ4 _ S4 ?_
          revert h4
          dsimp only
          cases f ρ2 with
          | none => exact fun h => h
          | some o =>
            cases o with
            | nx ρ5 => exact fun h4 σ5 H5 O5 fp5 S5 E5 B5 => ⟨O5, fp5, ρ5, S5, E14.trans E5 S1.tr, (B'.trans B4).trans B5, h4.shift E5 S4.tr B5⟩
            | cnt ρ5 => exact fun h4 σ5 H5 O5 fp5 S5 E5 B5 => ⟨O5, fp5, ρ5, S5, E14.trans E5 S1.tr, (B'.trans B4).trans B5, h4.shift E5 S4.tr B5⟩
            | brk ρ5 => exact fun h4 => h4
            | ret w ρ5 => exact fun h4 => h4
            | exc x ρ5 => exact fun h4 => h4
      · have ei : i = ds.length := by omega
        subst ei
        rw [List.drop_length] at h'
        exact .inl ⟨Y.stop O' fp' H' E' S'.tr, h' σ' H' O' fp' S' .refl .refl⟩
theorem vs_for (hp : PassesOwn (model X.prog X.w) X.A X.env X.xe) (hc : X.calm = true) (hi : VI c X W tg iter fi) (hg : VG c X bor tg gt) (hb : VSs c X W bor body f)
    (hs : ∀ x, foldedSetIterable iter X.env x = pure x := by intro _; rfl) : VS c X W bor (.For tg iter body [] pos) (sFor fi gt f) := by
  obtain ⟨wi, pi, oi⟩ := hi
  obtain ⟨g, pg, og⟩ := hg
  obtain ⟨t, pt, ot⟩ := hb
  exact ⟨_, ps_for hp hc pi pg pt hs, ok_for oi og ot⟩

/-! ### while -/
def loopW (ft : FG Bool) (f : FS) : Nat → FS
  | 0 => fun _ => none
  | n + 1 => fun ρ => match ft ρ with
    | none => none
    | some (.exc x ρ') => some (.exc x ρ')
    | some (.val false ρ1) => some (.nx ρ1)
    | some (.val true ρ1) => match f ρ1 with
      | some (.nx ρ2) => loopW ft f n ρ2
      | some (.cnt ρ2) => loopW ft f n ρ2
      | some (.brk ρ2) => some (.nx ρ2)
      | r => r
def sWhile (μ : Env → Nat) (ft : FG Bool) (f : FS) : FS := fun ρ => loopW ft f (μ ρ) ρ
theorem ok_while {μ : Env → Nat} (ht : Ok RB c W b ft tt) (hb : OkS c W bor f t) : OkS c W bor (sWhile μ ft f) (tWhile tt t) := fun O fp H ρ σ D S h => by
  refine ⟨fun m σ' H' => ∃ O' fp' ρ', SR c O' fp' H' ρ' σ' ∧ PostS c W bor O' fp' H' σ' (loopW ft f m ρ') D, ⟨μ ρ, O, fp, ρ, S, h⟩, ?_⟩
  rintro m σ' H' ⟨O', fp', ρ', S', h'⟩
  cases m with
  | zero => exact h'.elim
  | succ n =>
    refine ht O' fp' H' ρ' σ' _ S' ?_
    unfold loopW at h'
    revert h'
    cases ft ρ' with
    | none => exact fun h => h
    | some o =>
      cases o with
      | exc x ρ1 => exact fun h cls d H1 O1 fp1 S1 E1 R => h cls d σ' H1 O1 fp1 S1 E1 .refl R
      | val k ρ1 =>
        intro h' u H1 O1 fp1 g S1 E1 I1 R F
        obtain ⟨e, _⟩ := R
        subst e
        cases k with
        | false =>
          rw [if_neg Bool.false_ne_true]
          exact h' σ' H1 O1 fp1 S1 E1 .refl
        | true =>
          rw [if_pos rfl]
          refine ⟨fun σ2 H2 => ∃ O2 fp2 ρ2, SR c O2 fp2 H2 ρ2 σ2 ∧ PostS c W bor O2 fp2 H2 σ2 (loopW ft f n ρ2) D, fun σ2 H2 q => ⟨n, Nat.lt_succ_self n, q⟩, ?_⟩
          have h4 := PostS.shift E1 S'.tr .refl h'
          refine hb O1 fp1 H1 ρ1 σ' _ S1 ?_
          revert h4
          dsimp only
          cases f ρ1 with
          | none => exact fun h => h
          | some o =>
            cases o with
            | nx ρ5 => exact fun h4 σ5 H5 O5 fp5 S5 E5 B5 => ⟨O5, fp5, ρ5, S5, PostS.shift E5 S1.tr B5 h4⟩
            | cnt ρ5 => exact fun h4 σ5 H5 O5 fp5 S5 E5 B5 => ⟨O5, fp5, ρ5, S5, PostS.shift E5 S1.tr B5 h4⟩
            | brk ρ5 => exact fun h4 => h4
            | ret w ρ5 => exact fun h4 => h4
            | exc x ρ5 => exact fun h4 => h4
theorem vs_while (μ : Env → Nat) (hp : PassesOwn (model X.prog X.w) X.A X.env X.xe) (hc : VT c X W false a ft) (hb : VSs c X W bor body f) : VS c X W bor (.While a body [] pos) (sWhile μ ft f) := by
  obtain ⟨tt, pt, ot⟩ := hc
  obtain ⟨t, pb, ob⟩ := hb
  exact ⟨_, ps_while hp pt pb, ok_while ot ob⟩
end
end Vl

namespace Vl
open PySem PySem.Spec PyProof.Rows L2
/-- a def's answer: what it hands back, what its own arguments are then -/
inductive Ans where
  | ret (w : T) (ts : List T) | exc (x : Exn) (ts : List T)
abbrev FF := List T → Option Ans
abbrev Vb.v (c : Vb) : Vc := ⟨c, []⟩
def PostF (c : Vb) (O : Addr → Prop) (fp : List Addr) (H : Hp) (vs : List V) (r : Option Ans) (Q : VK) (E : XK) : Prop := match r with
  | none => False
  | some (.ret w ts') => ∀ u H' O' fp' g, RTs c O' H' ts' vs fp' → (fp' ++ g).Nodup → (∀ b ∈ fp' ++ g, O' b) → (∀ b, O' b → nT (H' b)) → Tabs c H' → Ext fp O H fp' O' H' → RT c O' H' w u g → Fr g fp H → Q u H'
  | some (.exc x ts') => ∀ cls d H' O' fp', RTs c O' H' ts' vs fp' → fp'.Nodup → (∀ b ∈ fp', O' b) → (∀ b, O' b → nT (H' b)) → Tabs c H' → Ext fp O H fp' O' H' → RX c O' H' x cls d → E cls d H'
/-- THE PROMISE -/
def spV (c : Vb) (n : Nat) (F : FF) : Sp := fun vs H Q E => vs.length = n ∧ ∃ O fp ts, RTs c O H ts vs fp ∧ fp.Nodup ∧ (∀ b ∈ fp, O b) ∧ (∀ b, O b → nT (H b)) ∧ Tabs c H ∧ PostF c O fp H vs (F ts) Q E
theorem spV.imp {c : Vb} {n : Nat} {F G : FF} (h : ∀ ts a, G ts = some a → F ts = some a) {vs : List V} {H : Hp} {Q : VK} {E : XK} (q : spV c n G vs H Q E) : spV c n F vs H Q E := by
  obtain ⟨hn, O, fp, ts, r, nd, ow, tr, tb, p⟩ := q
  refine ⟨hn, O, fp, ts, r, nd, ow, tr, tb, ?_⟩
  cases e : G ts with
  | none => rw [e] at p; exact p.elim
  | some a => rw [h ts a e]; rw [e] at p; exact p
def T.isOwn : T → Bool
  | .fr _ => false
  | _ => true
def finL : List T → Env → Option (List T)
  | [], _ => some []
  | .fr d :: ts, _ :: ρ => (finL ts ρ).map fun l => .fr d :: l
  | _ :: ts, some t' :: ρ => if t'.isOwn then (finL ts ρ).map fun l => t' :: l else none
  | _, _ => none
def ownsOk (bor : List Nat) (ts : List T) : Bool := (List.range ts.length).all fun i => match ts[i]? with
  | some (.fr _) => true
  | _ => bor.contains i
def outT (bor : List Nat) (w : Val) (ρ : Env) : Option (T × Env) := match w with
  | .fr d => some (.fr d, ρ)
  | .nw t => some (t, ρ)
  | .al i => match ρ[i]? with
    | some (some t) => some (t, ρ.set i none)
    | _ => none
  | .pt _ _ => none
def bodyF (n : Nat) (bor : List Nat) (g : FS) : FF := fun ts =>
  if ownsOk bor ts then match g (ts.map some ++ List.replicate (n - ts.length) none) with
    | some (.nx ρ') => (finL ts ρ').map (.ret (.fr .non))
    | some (.ret w ρ') => (outT bor w ρ').bind fun p => (finL ts p.2).map (.ret p.1)
    | some (.exc x ρ') => (finL ts ρ').map (.exc x)
    | _ => none
  else none
section
variable {c : Vb} {X : Cx} {W : WX} {b b1 b2 : Bool} {bor : List Nat} {α β γ δ : Type} {O O1 O2 O' : Addr → Prop} {fp fp1 fp2 fp' : List Addr} {H H1 H2 H' : Hp} {ρ ρ1 ρ2 ρ' : Env} {σ σ1 σ' : L2.St}
theorem RTs.len : ∀ {ts : List T} {vs : List V} {f : List Addr}, RTs c O H ts vs f → vs.length = ts.length
  | [], _, _, h => by rw [h.1]; rfl
  | _ :: _, _, _, ⟨v, r, f1, f2, e, _, t, _⟩ => by rw [e]; simp [RTs.len t]
theorem RTs.rs : ∀ {ts : List T} {vs : List V} {f : List Addr} {k : Nat}, RTs c O H ts vs f → RS c O H (ts.map some ++ List.replicate k none) (vs.map some ++ List.replicate k none) f
  | [], _, _, k, h => by
    rw [h.1, h.2]
    show RS c O H (List.replicate k none) (List.replicate k none) []
    induction k with
    | zero => exact ⟨rfl, rfl⟩
    | succ k ih => exact ⟨none, _, rfl, ih⟩
  | t :: ts, _, _, k, ⟨v, r, f1, f2, e, h, q, ef⟩ => ⟨v, r.map some ++ List.replicate k none, f1, f2, by rw [e]; rfl, h, RTs.rs q, ef⟩
def OwnAt (ts : List T) (vs : List V) (σ : L2.St) : Prop := ∀ (i : Nat) (t : T) (v : V), ts[i]? = some t → t.isOwn = true → vs[i]? = some v → σ[i]? = some (some v)
theorem OwnAt.tl {t : T} {ts : List T} {v : V} {vs : List V} {s : Option V} {σ : L2.St} (k : OwnAt (t :: ts) (v :: vs) (s :: σ)) : OwnAt ts vs σ := fun i t' v' h1 h2 h3 => by simpa using k (i + 1) t' v' (by simpa using h1) h2 (by simpa using h3)
theorem finL_own (s : Stb O H O' H') {ts : List T} {t : T} {vs : List V} {f : List Addr} {o : Option T} {ρ' : Env} {σ' : L2.St} {fp' : List Addr} {ts' : List T} (ot : t.isOwn = true) (h : RTs c O H (t :: ts) vs f) (r : RS c O' H' (o :: ρ') σ' fp')
      (e : (match o with | some t' => if t'.isOwn then (finL ts ρ').map fun l => t' :: l else none | none => none) = some ts')
      (k : OwnAt (t :: ts) vs σ')
      (ih : ∀ {vs : List V} {f : List Addr} {σ' : L2.St} {fp' : List Addr} {ts' : List T}, RTs c O H ts vs f → RS c O' H' ρ' σ' fp' → finL ts ρ' = some ts' → OwnAt ts vs σ' → ∃ fq, RTs c O' H' ts' vs fq ∧ fq.Sublist fp') :
      ∃ fq, RTs c O' H' ts' vs fq ∧ fq.Sublist fp' := by
    obtain ⟨v, vr, f1, f2, ev, h1, q, ef⟩ := h
    subst ev
    cases o with
    | none => cases e
    | some t' =>
      by_cases hw : t'.isOwn = true
      · have e : (if t'.isOwn then (finL ts ρ').map fun l => t' :: l else none) = some ts' := e
        rw [if_pos hw] at e
        obtain ⟨l, e1, e2⟩ := Option.map_eq_some_iff.mp e
        subst e2
        obtain ⟨v', r', g1, g2, es, h', r, eg⟩ := r
        have k0 := k 0 t v rfl ot rfl
        subst es
        have ev : v' = v := by simpa using k0
        subst ev
        obtain ⟨fq, z1, z2⟩ := ih q r e1 k.tl
        exact ⟨g1 ++ fq, ⟨v', vr, g1, fq, rfl, h', z1, rfl⟩, by rw [eg]; exact List.Sublist.append (List.Sublist.refl _) z2⟩
      · have e : (if t'.isOwn then (finL ts ρ').map fun l => t' :: l else none) = some ts' := e
        rw [if_neg hw] at e
        cases e
theorem finL_ok (s : Stb O H O' H') : ∀ {ts : List T} {vs : List V} {f : List Addr} {ρ' : Env} {σ' : L2.St} {fp' : List Addr} {ts' : List T}, RTs c O H ts vs f → RS c O' H' ρ' σ' fp' → finL ts ρ' = some ts' →
    OwnAt ts vs σ' → ∃ fq, RTs c O' H' ts' vs fq ∧ fq.Sublist fp'
  | [], _, _, _, _, _, _, h, _, e, _ => by
    cases e
    exact ⟨[], ⟨h.1, rfl⟩, List.nil_sublist _⟩
  | .fr d :: ts, _, _, [], _, _, _, h, r, e, k => by simp [finL] at e
  | .lst _ :: ts, _, _, [], _, _, _, h, r, e, k => by simp [finL] at e
  | .dK _ :: ts, _, _, [], _, _, _, h, r, e, k => by simp [finL] at e
  | .dT _ :: ts, _, _, [], _, _, _, h, r, e, k => by simp [finL] at e
  | .obj _ _ :: ts, _, _, [], _, _, _, h, r, e, k => by simp [finL] at e
  | .tl _ :: ts, _, _, [], _, _, _, h, r, e, k => by simp [finL] at e
  | .hole :: ts, _, _, [], _, _, _, h, r, e, k => by simp [finL] at e
  | .fr d :: ts, _, _, o :: ρ, _, _, _, ⟨v, vr, f1, f2, ev, h, q, ef⟩, r, e, k => by
    simp only [finL] at e
    obtain ⟨l, e1, e2⟩ := Option.map_eq_some_iff.mp e
    subst e2 ev
    cases o with
    | none =>
      obtain ⟨s', r', es, r⟩ := r
      subst es
      obtain ⟨fq, z1, z2⟩ := finL_ok s q r e1 k.tl
      exact ⟨fq, ⟨v, vr, [], fq, rfl, ⟨h.1.stb s, rfl⟩, z1, rfl⟩, z2⟩
    | some t0 =>
      obtain ⟨v', r', g1, g2, es, h', r, eg⟩ := r
      subst es
      obtain ⟨fq, z1, z2⟩ := finL_ok s q r e1 k.tl
      exact ⟨fq, ⟨v, vr, [], fq, rfl, ⟨h.1.stb s, rfl⟩, z1, rfl⟩, by rw [eg]; exact z2.trans (List.sublist_append_right _ _)⟩
  | .lst xs :: ts, _, _, o :: ρ, _, _, _, h, r, e, k => finL_own s (t := .lst xs) rfl h r (by cases o <;> simpa [finL] using e) k fun q r e k => finL_ok s q r e k
  | .dK xs :: ts, _, _, o :: ρ, _, _, _, h, r, e, k => finL_own s (t := .dK xs) rfl h r (by cases o <;> simpa [finL] using e) k fun q r e k => finL_ok s q r e k
  | .dT xs :: ts, _, _, o :: ρ, _, _, _, h, r, e, k => finL_own s (t := .dT xs) rfl h r (by cases o <;> simpa [finL] using e) k fun q r e k => finL_ok s q r e k
  | .obj n xs :: ts, _, _, o :: ρ, _, _, _, h, r, e, k => finL_own s (t := .obj n xs) rfl h r (by cases o <;> simpa [finL] using e) k fun q r e k => finL_ok s q r e k
  | .tl xs :: ts, _, _, o :: ρ, _, _, _, h, r, e, k => finL_own s (t := .tl xs) rfl h r (by cases o <;> simpa [finL] using e) k fun q r e k => finL_ok s q r e k
  | .hole :: ts, _, _, o :: ρ, _, _, _, h, r, e, k => finL_own s (t := .hole) rfl h r (by cases o <;> simpa [finL] using e) k fun q r e k => finL_ok s q r e k
theorem ownsOk_bor {ts : List T} (h : ownsOk bor ts = true) {i : Nat} {t : T} (e : ts[i]? = some t) (o : t.isOwn = true) : i ∈ bor := by
  have hi := (List.getElem?_eq_some_iff.mp e).1
  have q := List.all_eq_true.mp h i (List.mem_range.mpr hi)
  rw [e] at q
  cases t with
  | fr d => cases o
  | _ => exact List.contains_iff_mem.mp q

/-! ### a def's body keeps the promise -/
/-- the end of a body -/
theorem body_end {n : Nat} {ts ts' : List T} {vs : List V} (r : RTs c O H ts vs fp) (ow : ∀ b ∈ fp, O b) (ho : ownsOk bor ts = true) (S : SR c.v O' fp' H' ρ' σ') (E : Ext fp O H fp' O' H') (B : Bk bor (vs.map some ++ List.replicate n none) σ') (e : finL ts ρ' = some ts') :
    ∃ fq, RTs c O' H' ts' vs fq ∧ fq.Sublist fp' := by
  refine finL_ok (E.stb ow) r S.rs e fun i t v h1 h2 h3 => ?_
  have q := B i (ownsOk_bor ho h1 h2)
  rw [q]
  have hi := (List.getElem?_eq_some_iff.mp h3).1
  rw [List.getElem?_append_left (by simpa using hi), List.getElem?_map, h3]
  rfl
theorem sub_ext {fq : List Addr} (E : Ext fp O H fp' O' H') (k : fq.Sublist fp') : Ext fp O H fq O' H' := ⟨E.kp, E.th, E.ok, E.on, fun a ha => E.fn a (k.subset ha)⟩
theorem body_core {N : List Str} {n : Nat} {g : FS} {t : TS} {vs : List V} {Q : VK} {E : XK} (ot : OkS c.v (fun cls d _ H => E cls d H) bor g t) (h : spV c n (bodyF N.length bor g) vs H Q E) : t { nx := fun _ H' => Q .non H', rt := Q } (L2.start N vs) H := by
  obtain ⟨hn, O, fp, ts, r, nd, ow, tr, tb, p⟩ := h
  unfold bodyF at p
  by_cases ho : ownsOk bor ts = true
  · rw [if_pos ho] at p
    have hlen := r.len
    have hst : L2.start N vs = vs.map some ++ List.replicate (N.length - ts.length) none := by unfold L2.start; rw [hlen]
    rw [hst]
    have S0 : SR c.v O fp H (ts.map some ++ List.replicate (N.length - ts.length) none) (vs.map some ++ List.replicate (N.length - ts.length) none) := ⟨r.rs, nd, ow, tr, tb, fun _ q => nomatch q⟩
    refine ot O fp H _ _ _ S0 ?_
    revert p
    cases g (ts.map some ++ List.replicate (N.length - ts.length) none) with
    | none => exact fun p => p
    | some o =>
      cases o with
      | brk ρ' => exact fun p => p.elim
      | cnt ρ' => exact fun p => p.elim
      | nx ρ' =>
        intro p σ' H' O' fp' S' E' B'
        cases e : finL ts ρ' with
        | none => simp only [e] at p; exact p.elim
        | some ts' =>
          simp only [e] at p
          obtain ⟨fq, z1, z2⟩ := body_end r ow ho S' E' B' e
          exact p .non H' O' fq [] z1 (by rw [List.append_nil]; exact S'.nd.sublist z2) (fun b hb => S'.ow b (z2.subset (by simpa using hb))) S'.tr S'.tb (sub_ext E' z2) ⟨rfl, rfl⟩ fun _ q => (by cases q)
      | exc x ρ' =>
        intro p cls d σ' H' O' fp' S' E' B' R
        cases e : finL ts ρ' with
        | none => simp only [e] at p; exact p.elim
        | some ts' =>
          simp only [e] at p
          obtain ⟨fq, z1, z2⟩ := body_end r ow ho S' E' B' e
          exact p cls d H' O' fq z1 (S'.nd.sublist z2) (fun b hb => S'.ow b (z2.subset hb)) S'.tr S'.tb (sub_ext E' z2) R
      | ret w ρ' =>
        intro p u σ' H' O' fp' g' S' E' B' R Fg
        cases w with
        | fr d =>
          cases e : finL ts ρ' with
          | none => simp only [outT, Option.bind_some, e] at p; exact p.elim
          | some ts' =>
            simp only [outT, Option.bind_some, e] at p
            obtain ⟨fq, z1, z2⟩ := body_end r ow ho S' E' B' e
            exact p u H' O' fq [] z1 (by rw [List.append_nil]; exact S'.nd.sublist z2) (fun b hb => S'.ow b (z2.subset (by simpa using hb))) S'.tr S'.tb (sub_ext E' z2) ⟨R.1, rfl⟩ fun _ q => (by cases q)
        | nw t =>
          cases e : finL ts ρ' with
          | none => simp only [outT, Option.bind_some, e] at p; exact p.elim
          | some ts' =>
            simp only [outT, Option.bind_some, e] at p
            obtain ⟨fq, z1, z2⟩ := body_end r ow ho S' E' B' e
            obtain ⟨R1, R2, R3⟩ := R
            refine p u H' O' fq g' z1 (List.nodup_append.mpr ⟨S'.nd.sublist z2, R2, fun a ha b hb e => (R3 b hb).2 (z2.subset (e ▸ ha))⟩) (fun b hb => ?_) S'.tr S'.tb (sub_ext E' z2) R1 Fg
            rcases List.mem_append.mp hb with q | q
            · exact S'.ow b (z2.subset q)
            · exact (R3 b q).1
        | pt i j => exact p.elim
        | al i =>
          obtain ⟨hu, _⟩ := R
          cases q : ρ'[i]? with
          | none => simp only [outT, q] at p; exact p.elim
          | some o =>
            cases o with
            | none => simp only [outT, q] at p; exact p.elim
            | some t =>
              simp only [outT, q, Option.bind_some] at p
              cases e : finL ts (ρ'.set i none) with
              | none => simp only [e] at p; exact p.elim
              | some ts' =>
                simp only [e] at p
                obtain ⟨v, f1, fl, fr, h1, h2, h3, _, h5⟩ := S'.rs.get q
                rw [hu] at h1
                have ev : u = v := by simpa using h1
                subst ev
                have RS' := h5 (O' := O') (H' := H') (s' := some u) (.less fun a q => q) (fun _ _ => rfl)
                rw [set_same hu] at RS'
                have nd' := S'.nd
                rw [h3] at nd'
                have S2 : SR c.v O' (fl ++ fr) H' (ρ'.set i none) σ' := ⟨RS', nodup_less nd', fun a ha => S'.ow a (by rw [h3]; simp only [List.mem_append] at ha ⊢; rcases ha with ha | ha <;> simp [ha]), S'.tr, S'.tb, fun _ q => nomatch q⟩
                have E2 : Ext fp O H (fl ++ fr) O' H' := ⟨E'.kp, E'.th, E'.ok, E'.on, fun a ha => E'.fn a (by rw [h3]; simp only [List.mem_append] at ha ⊢; rcases ha with ha | ha <;> simp [ha])⟩
                obtain ⟨fq, z1, z2⟩ := body_end r ow ho S2 E2 B' e
                have dj : ∀ a ∈ fl ++ fr, a ∉ f1 := by
                  simp only [List.nodup_append, List.mem_append] at nd' ⊢
                  rintro a (ha | ha) hf
                  · exact nd'.1.2.2 a ha a hf rfl
                  · exact nd'.2.2 a (.inr hf) a ha rfl
                have n1 : f1.Nodup := by
                  simp only [List.nodup_append] at nd'
                  exact nd'.1.2.1
                refine p u H' O' fq f1 z1 (List.nodup_append.mpr ⟨S2.nd.sublist z2, n1, fun a ha b hb e => dj a (z2.subset ha) (e ▸ hb)⟩) (fun b hb => ?_) S'.tr S'.tb (sub_ext E2 z2) h2 fun a ha => (E'.fn a (by rw [h3]; simp [ha])).symm
                rcases List.mem_append.mp hb with q | q
                · exact S2.ow b (z2.subset q)
                · exact S'.ow b (by rw [h3]; simp [q])
  · rw [if_neg ho] at p
    exact p.elim
/-- a def's body keeps the promise -/
theorem body_ok {P : Program} {w : World} {mg : Str → Option Value} {base : Heap} {x qual : Str} {st : Stmt} {f : Addr} {fd : FuncData} {N ps : List Str} {k : Nat} {g : FS} (F : Fun c.K x qual st f fd) (S : FnScope N ps (defScope st))
    (hb : ∀ (X : Cx) (W : WX), X.prog = P → X.w = w → X.K = c.K → X.mg = mg → X.base = base → X.N = N → X.env.scope = defScope st → X.fn = (fun _ => true) → X.calm = true → (X.stack = X.env :: X.outer) → X.env.frame = some X.env.locals → X.ex = [] →
      PassesOwn (model X.prog X.w) X.A X.env X.xe → Takes X W → Room k X.A → VSs c.v X W bor (defBody st) g) :
    FnOk P w c.K mg base (L2.CX P w) (k + 1) f fd ps (spV c ps.length (bodyF N.length bor g)) := by
  refine F.okX S (fun vs H Q E h => h.1) (fun cdv A outer s H vs Q E hr h => ?_)
  obtain ⟨t, pt, ot⟩ := hb (cxOf (L2.CX P w) P w c.K mg base N qual (defScope st) f cdv A outer s H E) (fun cls d _ H => E cls d H) rfl rfl rfl rfl rfl rfl rfl rfl rfl rfl rfl rfl
    (passes_of (K := fun e s'' => L2.CX P w outer H s E e s'') (E₁ := fun e s'' => L2.CX P w outer H s E e s'') rfl) (takes_of rfl rfl rfl rfl) hr
  exact ⟨t, pt, body_core ot h⟩
end
end Vl

namespace Vl
open PySem PySem.Spec PyProof.Rows L2
section
variable {X : Cx} {CX : CXT} {k : Nat} {f C : Addr} {fd : FuncData} {ps : List Str} {sp : Sp} {E : L2.St → XK} {x m : Str} {p pos apos : Pos} {e o : Expr} {es : List Expr} {ta : TE} {t : TA}
def tMethS (C : Addr) (m : Str) (sp : Sp) (E : L2.St → XK) (ta : TE) (t : TA) : TE := fun σ H Q => ta σ H fun x H1 => ∃ a dx fs, x = .ref a ∧ H1 a = some (.ins C dx fs) ∧ fs.lookup m = none ∧
  t σ H1 fun vs H2 => sp (x :: vs) H2 Q (E σ)
theorem pe_methS {pl : Sem Bool} (he : PE X o ta) (c : Cls X.K C) (hm : Meth X.K C m f) (F : FnOk X.prog X.w X.K X.mg X.base CX k f fd ps sp) (hr : Room k X.A) (hb : Binds X.K fd ps []) (hx : ∀ σ, PassesAt CX X σ (E σ)) (ha : PA X (e :: es) t)
    (hst : starEach (e :: es) X.env = (false, eval e X.env) :: starEach es X.env := by rfl) (hpl : (backTo pos (starEach es X.env)).any (·.1) = false := by rfl)
    (ht : eval (.Call (.Attribute o m apos) (e :: es) [] pos) X.env = (do
      let ov ← eval o X.env
      standAt apos.atName
      let (f, first) ← holding [ov] (getMethod ov m pl)
      callWith pos f first (backTo pos (starEach (e :: es) X.env)) (backToKw pos (keywordEach [] X.env))) := by rfl) :
    PE X (.Call (.Attribute o m apos) (e :: es) [] pos) (tMethS C m sp E ta t) := by
  refine ⟨fun pins s σ H Q I h => ?_⟩
  refine PySem.W.methodCall_KW (pl := pl) (thn (he.run pins s σ H _ I h) fun u s1 ⟨x, H1, I1, rx, a, dx, fs, ex, ea, l, q⟩ => ?_) ht
  subst ex
  obtain rfl : u = Value.ref a := rx
  refine getmeth_ok I1 ea c hm l ?_
  refine PySem.W.callWith_K (first := [.ref a]) (h₀ := X.base) I.ok.mod.kin hm.kp (thn (ha.run pos pins s1 σ H1 _ I1 q) fun us s2 ⟨vs, H2, I2, r, q2⟩ => ⟨I2.kIn, ?_⟩) hst hpl
  exact run_fnS (us := .ref a :: us) (vs := .ref a :: vs) F hr hb (hx σ) I2 (.cons rfl r) q2
theorem pe_methS0 {pl : Sem Bool} (he : PE X o ta) (c : Cls X.K C) (hm : Meth X.K C m f) (F : FnOk X.prog X.w X.K X.mg X.base CX k f fd ps sp) (hr : Room k X.A) (hb : Binds X.K fd ps []) (hx : ∀ σ, PassesAt CX X σ (E σ))
    (ht : eval (.Call (.Attribute o m apos) [] [] pos) X.env = (do
      let ov ← eval o X.env
      standAt apos.atName
      let (f, first) ← holding [ov] (getMethod ov m pl)
      callWith pos f first (backTo pos (starEach [] X.env)) (backToKw pos (keywordEach [] X.env))) := by rfl) :
    PE X (.Call (.Attribute o m apos) [] [] pos) (tMethS C m sp E ta tNil) := by
  refine ⟨fun pins s σ H Q I h => ?_⟩
  refine PySem.W.methodCall_KW (pl := pl) (thn (he.run pins s σ H _ I h) fun u s1 ⟨x, H1, I1, rx, a, dx, fs, ex, ea, l, q⟩ => ?_) ht
  subst ex
  obtain rfl : u = Value.ref a := rx
  refine getmeth_ok I1 ea c hm l ?_
  exact PySem.W.callWith_K0 (first := [.ref a]) I1.kIn hm.kp (run_fnS (us := [.ref a]) (vs := [.ref a]) F hr hb (hx σ) I1 (.cons rfl .nil) q)
theorem pe_callS0 (F : FnOk X.prog X.w X.K X.mg X.base CX k f fd ps sp) (hr : Room k X.A) (hg : Gl X x) (hm : X.mg x = some (.ref f)) (hk : PySem.W.keepIn X.K (.ref f) = true) (hb : Binds X.K fd ps []) (hx : ∀ σ, PassesAt CX X σ (E σ))
    (hdb : (x == ("__debug__" : Str)) = false := by decide) : PE X (.Call (.Name x p) [] [] pos) (tCallS sp E tNil) := by
  refine ⟨fun pins s σ H Q I h => ?_⟩
  refine wpAny_Call_Name_kw (ld_glob I hg hm ?_ hdb)
  exact PySem.W.callWith_K0 I.kIn hk (run_fnS (us := []) F hr hb (hx σ) I .nil h)
theorem run_makeS {pins : List (Addr × Obj)} {σ : L2.St} {H : Hp} {s : Shared} {Q : VK} {us : List Value} {vs : List V} (M : Mk X.K C f) (F : FnOk X.prog X.w X.K X.mg X.base CX k f fd ps sp) (hr : Room (k + 1) X.A) (hb : Binds X.K fd ps [])
    (hx : PassesAt CX X σ (E σ)) (I : Inv X pins σ H s) (r : Vals vs us)
    (h : ∀ x dx, H x = none → H dx = none → dx ≠ x → sp (.ref x :: vs) (upd (upd H dx (.own x)) x (.ins C dx [])) (fun v H2 => v = .non ∧ Q (.ref x) H2) (E σ)) :
    wpAny (model X.prog X.w) X.A (call (.ref C) us) (EP X pins σ Q) X.xe s := by
  have hq := h (s.heap.objs.size + 1) s.heap.objs.size (I.hok.fresh (Nat.le_succ _)) (I.hok.fresh (Nat.le_refl _)) (Nat.ne_of_lt (Nat.lt_succ_self _))
  have I2 := Inv.made (C := C) I
  have r2 : Vals (V.ref (s.heap.objs.size + 1) :: vs) (Value.ref (s.heap.objs.size + 1) :: us) := .cons rfl r
  have hl : (Value.ref (s.heap.objs.size + 1) :: us).length = ps.length := by
    have e := r2.length
    rw [F.len _ _ _ _ hq] at e
    exact e.symm
  have b := hb _ (Value.ref (s.heap.objs.size + 1) :: us) I2.kIn (by rw [List.append_nil]; exact hl)
  rw [List.append_nil] at b
  refine wpAny_call (make_map (f := f) I.kIn M.makes M.init (beq_iff_eq.mp M.fn) (codeAny_mono (F.run _ X.stack _ _ ⟨Value.ref (s.heap.objs.size + 1) :: us, []⟩ (Value.ref (s.heap.objs.size + 1) :: us) _ _ (E σ) (hr.make C us [])
    (I2.env0.make C us []) b r2 hq) fun r s' hq' => ?_))
  cases r with
  | error e => exact hx pins _ _ e s' I2 hq'
  | ok fl =>
    cases fl with
    | ret u =>
      obtain ⟨v, H', I3, rv, ev, q3⟩ := I2.after hq'
      subst ev
      exact ⟨rv, ⟨V.ref (s.heap.objs.size + 1), H', I3, rfl, q3⟩⟩
    | next => exact False.elim hq'
    | brk => exact False.elim hq'
    | cont => exact False.elim hq'
def tMakeS (C : Addr) (sp : Sp) (E : L2.St → XK) (t : TA) : TE := fun σ H Q => t σ H fun vs H1 => ∀ x dx, H1 x = none → H1 dx = none → dx ≠ x →
  sp (.ref x :: vs) (upd (upd H1 dx (.own x)) x (.ins C dx [])) (fun v H2 => v = .non ∧ Q (.ref x) H2) (E σ)
theorem pe_makeS (M : Mk X.K C f) (F : FnOk X.prog X.w X.K X.mg X.base CX k f fd ps sp) (hr : Room (k + 1) X.A) (hg : Gl X x) (hm : X.mg x = some (.ref C)) (hb : Binds X.K fd ps []) (hx : ∀ σ, PassesAt CX X σ (E σ))
    (ha : PA X (e :: es) t) (hdb : (x == ("__debug__" : Str)) = false := by decide) (he : starEach (e :: es) X.env = (false, eval e X.env) :: starEach es X.env := by rfl) (hpl : (backTo pos (starEach es X.env)).any (·.1) = false := by rfl) :
    PE X (.Call (.Name x p) (e :: es) [] pos) (tMakeS C sp E t) := by
  refine ⟨fun pins s σ H Q I h => ?_⟩
  refine wpAny_Call_Name_kw (ld_glob I hg hm ?_ hdb)
  refine PySem.W.callWith_K (h₀ := X.base) I.ok.mod.kin M.kp (thn (ha.run pos pins s σ H _ I h) fun us s1 ⟨vs, H1, I1, r, q⟩ => ⟨I1.kIn, ?_⟩) he hpl
  exact run_makeS M F hr hb (hx σ) I1 r q
end

def toVal : T → Val
  | .fr d => .fr d
  | t => .nw t
section
variable {c : Vc} {X : Cx} {W : WX} {b b1 b2 : Bool} {bor : List Nat} {α β γ δ : Type} {O O1 O2 O' : Addr → Prop} {fp fp1 fp2 fp' : List Addr} {H H1 H2 H' : Hp} {ρ ρ1 ρ2 ρ' : Env} {σ σ1 σ' : L2.St}
variable {e o : Expr} {es : List Expr} {fa : FE} {fs : FG (List Val)} {pos apos p : Pos} {n k : Nat} {F : FF} {f C : Addr} {fd : FuncData} {ps : List Str} {x m : Str}
theorem RT.val {t : T} {u : V} {g : List Addr} (r : RT c O H t u g) (nd : g.Nodup) (k : ∀ b ∈ g, O b ∧ b ∉ fp) : RV c O fp H ρ σ (toVal t) u g := by
  cases t with
  | fr d => exact r
  | _ => exact ⟨r, nd, k⟩
theorem RDs.rts : ∀ {ds : List D} {vs : List V}, RDs c O H ds vs → RTs c O H (ds.map .fr) vs []
  | [], _, h => ⟨h, rfl⟩
  | _ :: _, _, ⟨v, r, e, h, t⟩ => ⟨v, r, [], [], e, ⟨h, rfl⟩, t.rts, rfl⟩
/-! ### a call whose arguments stand still -/
def kCall (F : FF) (ws : List Val) : FE := fun ρ => match (fzs ws).bind fun ds => F (ds.map .fr) with
  | some (.ret w _) => some (.val (toVal w) ρ)
  | some (.exc x _) => some (.exc x ρ)
  | none => none
theorem Post.call {Q : V → Hp → Prop} {ws : List Val} {us : List V} {g1 : List Addr} (hn : us.length = n) (S0 : ∀ b, O b → nT (H b)) (S : SR c O1 fp1 H1 ρ1 σ) (E : Ext fp O H fp1 O1 H1) (I : b = true → Ins H H1) (rx : RVs c O1 fp1 H1 ρ1 σ ws us g1) (F1 : Fr g1 fp H)
    (h : Post (RV c) c W b O fp H σ (kCall F ws ρ1) Q) : spV c n F us H1 Q (WE W σ) := by
  unfold kCall at h
  cases ef : fzs ws with
  | none => simp only [ef, Option.bind_none] at h; exact h.elim
  | some ds =>
    simp only [ef, Option.bind_some] at h
    have R := rx.rest (O1 := fun a => O1 a ∧ a ∉ g1) ef (fun a q => q.1) (fun a ha q => q.2 ha)
    have S2 := S.less fun a ha => (rx.own a ha).2
    have E2 := E.less S0 F1
    refine ⟨hn, _, [], ds.map .fr, R.rts, .nil, (fun _ q => (by cases q)), S2.tr, S2.tb, ?_⟩
    cases ea : F (ds.map .fr) with
    | none => simp only [ea] at h; exact h.elim
    | some a =>
      have adv : ∀ {fq : List Addr} {O' : Addr → Prop} {H' : Hp}, Ext [] (fun a => O1 a ∧ a ∉ g1) H1 fq O' H' → (∀ b, O' b → nT (H' b)) → Tabs c H' → SR c O' fp1 H' ρ1 σ ∧ Ext fp O H fp1 O' H' ∧ Ins H1 H' := fun {fq O' H'} Eq tr tb => by
        have kp : ∀ a, nT (H1 a) → H' a = H1 a := fun a h => Eq.kp a h (by simp)
        refine ⟨⟨S2.rs.stb (.of (fun a _ h => kp a h) Eq.on) fun a ha => kp a (S2.tr a (S2.ow a ha)), S2.nd, fun a ha => Eq.ok a (S2.ow a ha) (by simp), tr, tb, fun p hp => (S2.px p hp).stb (.of (fun a _ h => kp a h) Eq.on)⟩, ?_, kp⟩
        exact E2.trans ⟨fun a h _ => kp a h, Eq.th, fun a h _ => Eq.ok a h (by simp), Eq.on, fun a ha => .inl ha⟩ S0
      cases a with
      | ret w ts' =>
        simp only [ea] at h
        intro u H' O' fq g r nd ow tr tb Eq R' Fg
        obtain ⟨S3, E3, I3⟩ := adv Eq tr tb
        have nw : ∀ a ∈ g, H1 a = none := fun a ha => (Fg a ha).elim id fun q => (by cases q)
        exact h u H' O' fp1 g S3 E3 (fun q => (I q).trans I3) (R'.val (List.nodup_append.mp nd).2.1 fun a ha => ⟨ow a (by simp [ha]), fun q => (S.tr a (S.ow a q)).ne (nw a ha)⟩) fun a ha => .inl (Classical.byContradiction fun z => E.th a z (nw a ha))
      | exc x ts' =>
        simp only [ea] at h
        intro cls d H' O' fq r nd ow tr tb Eq R'
        obtain ⟨S3, E3, I3⟩ := adv Eq tr tb
        exact h cls d H' O' fp1 S3 E3 R'
theorem RVs.len : ∀ {ws : List Val} {us : List V} {g : List Addr}, RVs c O fp H ρ σ ws us g → us.length = ws.length
  | [], _, _, h => by rw [h.1]; rfl
  | _ :: _, _, _, ⟨u, r, g1, g2, e, _, t, _⟩ => by rw [e]; simp [RVs.len t]
def vCallF (n : Nat) (F : FF) (fs : FG (List Val)) : FE := bnd fs fun ws => if ws.length = n then kCall F ws else fun _ => none
theorem ite_len {ws : List Val} {Q : V → Hp → Prop} {g : FE} (h : Post (RV c) c W b O fp H σ ((if ws.length = n then g else fun _ => none) ρ) Q) : ws.length = n ∧ Post (RV c) c W b O fp H σ (g ρ) Q := by
  by_cases hl : ws.length = n
  · rw [if_pos hl] at h; exact ⟨hl, h⟩
  · rw [if_neg hl] at h; exact h.elim
theorem ve_call (hK : X.K = c.K) (Fk : FnOk X.prog X.w X.K X.mg X.base (L2.CX X.prog X.w) k f fd ps (spV c.toVb n F)) (hr : Room k X.A) (hg : Gl X x) (hm : X.mg x = some (.ref f)) (hk : PySem.W.keepIn X.K (.ref f) = true) (hb : Binds X.K fd ps []) (tk : Takes X W)
    (ha : VA c X W b (e :: es) fs) (hdb : (x == ("__debug__" : Str)) = false := by decide) (he : starEach (e :: es) X.env = (false, eval e X.env) :: starEach es X.env := by rfl) (hpl : (backTo pos (starEach es X.env)).any (·.1) = false := by rfl) :
    VE c X W b (.Call (.Name x p) (e :: es) [] pos) (vCallF n F fs) := by
  obtain ⟨ts, ps', os⟩ := ha
  refine ⟨_, pe_callS Fk hr hg hm hk hb (fun σ => passAt tk σ) ps' hdb he hpl, fun O fp H ρ σ Q S h => os.thn S.tr S .refl (fun _ => .refl) h id fun ws ρ1 us H1 O1 fp1 g1 _ S1 E1 _ I1 R1 F1 h1 => ?_⟩
  obtain ⟨hl, h2⟩ := ite_len h1
  exact Post.call (R1.len.trans hl) S.tr S1 E1 I1 R1 F1 h2
def vCallF0 (F : FF) : FE := kCall F []
theorem ve_call0 (hK : X.K = c.K) (Fk : FnOk X.prog X.w X.K X.mg X.base (L2.CX X.prog X.w) k f fd ps (spV c.toVb 0 F)) (hr : Room k X.A) (hg : Gl X x) (hm : X.mg x = some (.ref f)) (hk : PySem.W.keepIn X.K (.ref f) = true) (hb : Binds X.K fd ps []) (tk : Takes X W)
    (hdb : (x == ("__debug__" : Str)) = false := by decide) : VE c X W b (.Call (.Name x p) [] [] pos) (vCallF0 F) :=
  ⟨_, pe_callS0 Fk hr hg hm hk hb (fun σ => passAt tk σ) hdb, fun O fp H ρ σ Q S h => Post.call (ws := []) (g1 := []) rfl S.tr S .refl (fun _ => .refl) ⟨rfl, rfl⟩ (fun _ q => (by cases q)) h⟩
/-! ### an object that stands still: a field, a method -/
def lookD (fs : List (Str × D)) (n : Str) : Option D := fs.lookup n
theorem RDf.look : ∀ {fs : List (Str × D)} {vs : List (Str × V)} {n : Str}, RDf c O H fs vs → (∀ d, fs.lookup n = some d → ∃ v, vs.lookup n = some v ∧ RD c O H d v) ∧ (fs.lookup n = none → vs.lookup n = none)
  | [], _, n, h => by rw [show _ = [] from h]; simp
  | (k, d) :: fs, _, n, ⟨v, r, e, h, t⟩ => by
    subst e
    simp only [List.lookup]
    cases q : n == k with
    | true => simp only [Option.some.injEq, forall_eq']; exact ⟨⟨v, rfl, h⟩, by simp⟩
    | false => exact RDf.look t
/-- the field of an object -/
def dFld (nm : Str) (fl : Str) : D → Option Val
  | .obj n fs => if n = nm then (fs.lookup fl).map .fr else none
  | _ => none
def w1 (g : D → Option Val) (x : Val) (ρ : Env) : Option Val := (vw ρ x).bind g
def v1 (g : D → Option Val) (x : Val) : FE := fun ρ => match w1 g x ρ with
  | some w => some (.val w ρ)
  | none => none
def vFld (nm fl : Str) (fa : FE) : FE := bnd fa (v1 (dFld nm fl))
theorem ve_fld {nm fl : Str} (hK : X.K = c.K) (hc : Cls c.K (c.cl nm)) (hn : NoAttr c.K (c.cl nm) fl) (ha : VE c X W b e fa) (hb : attributeBase e fl X.env (eval e X.env) = eval e X.env := by rfl) : VE c X W b (.Attribute e fl pos) (vFld nm fl fa) := by
  obtain ⟨ta, pa, oa⟩ := ha
  refine ⟨_, pe_fld pa hb, fun O fp H ρ σ Q S h => oa.thn S.tr S .refl (fun _ => .refl) h id fun w ρ1 u H1 O1 fp1 g1 _ S1 E1 _ I1 R1 F1 h1 => ?_⟩
  cases e1 : w1 (dFld nm fl) w ρ1 with
  | none => simp only [v1, e1] at h1; exact h1.elim
  | some w' =>
    simp only [v1, e1] at h1
    obtain ⟨d, h2, h3⟩ := Option.bind_eq_some_iff.mp e1
    have pk := R1.vw S1 h2
    cases d with
    | obj n fs =>
      have h3 : (if n = nm then (fs.lookup fl).map Val.fr else none) = some w' := h3
      by_cases en : n = nm
      · subst en
        rw [if_pos rfl] at h3
        obtain ⟨d', h4, h5⟩ := Option.map_eq_some_iff.mp h3
        subst h5
        obtain ⟨a, dx, vs, eu, ho, rf⟩ := pk
        obtain ⟨v, h6, h7⟩ := rf.look.1 d' h4
        rw [hK]
        exact ⟨a, _, dx, vs, v, eu, ho, hc, hn, h6, Post.pr h1 S.tr S1 E1 I1 (.same h7)⟩
      · rw [if_neg en] at h3
        cases h3
    | _ => cases h3

end
end Vl

namespace Vl
open PySem PySem.Spec PyProof.Rows L2
section
variable {c : Vc} {X : Cx} {W : WX} {b b1 b2 : Bool} {bor : List Nat} {α β γ δ : Type} {O O1 O2 O' : Addr → Prop} {fp fp1 fp2 fp' : List Addr} {H H1 H2 H' : Hp} {ρ ρ1 ρ2 ρ' : Env} {σ σ1 σ' : L2.St}
variable {e o : Expr} {es : List Expr} {fa : FE} {fs : FG (List Val)} {pos apos p : Pos} {n k : Nat} {F : FF} {f C : Addr} {fd : FuncData} {ps : List Str} {x m : Str}
/-! ### a method of an object that stands still -/
def isObjD (nm m : Str) (x : Val) (ρ : Env) : Bool := match vw ρ x with
  | some (.obj n fs) => decide (n = nm) && (fs.lookup m).isNone
  | _ => false
def vMeth (nm m : Str) (n : Nat) (F : FF) (fo : FE) (fs : FG (List Val)) : FE := bnd fo fun x ρ => if isObjD nm m x ρ then bnd fs (fun ws => if (x :: ws).length = n then kCall F (x :: ws) else fun _ => none) ρ else none
theorem isObjD_ok {nm : Str} {w : Val} {u : V} {g : List Addr} (h : isObjD nm m w ρ = true) (R : RV c O fp H ρ σ w u g) (S : SR c O fp H ρ σ) : ∃ a dx fs, u = .ref a ∧ H a = some (.ins (c.cl nm) dx fs) ∧ fs.lookup m = none := by
  unfold isObjD at h
  cases e : vw ρ w with
  | none => rw [e] at h; cases h
  | some d =>
    have pk := R.vw S e
    rw [e] at h
    cases d with
    | obj n fs =>
      have h : (decide (n = nm) && (fs.lookup m).isNone) = true := h
      rw [Bool.and_eq_true] at h
      obtain rfl := of_decide_eq_true h.1
      obtain ⟨a, dx, vs, eu, ho, rf⟩ := pk
      exact ⟨a, dx, vs, eu, ho, rf.look.2 (by simpa using h.2)⟩
    | _ => cases h
theorem ve_meth {nm : Str} {pl : Sem Bool} (hK : X.K = c.K) (ho : VE c X W b o fa) (cl : Cls c.K (c.cl nm)) (hm : Meth c.K (c.cl nm) m f) (Fk : FnOk X.prog X.w X.K X.mg X.base (L2.CX X.prog X.w) k f fd ps (spV c.toVb n F)) (hr : Room k X.A) (hb : Binds X.K fd ps []) (tk : Takes X W)
    (ha : VA c X W b (e :: es) fs) (hst : starEach (e :: es) X.env = (false, eval e X.env) :: starEach es X.env := by rfl) (hpl : (backTo pos (starEach es X.env)).any (·.1) = false := by rfl)
    (ht : eval (.Call (.Attribute o m apos) (e :: es) [] pos) X.env = (do
      let ov ← eval o X.env
      standAt apos.atName
      let (f, first) ← holding [ov] (getMethod ov m pl)
      callWith pos f first (backTo pos (starEach (e :: es) X.env)) (backToKw pos (keywordEach [] X.env))) := by rfl) :
    VE c X W b (.Call (.Attribute o m apos) (e :: es) [] pos) (vMeth nm m n F fa fs) := by
  obtain ⟨to, po, oo⟩ := ho
  obtain ⟨ts, ps', os⟩ := ha
  refine ⟨_, pe_methS po (by rw [hK]; exact cl) (by rw [hK]; exact hm) Fk hr hb (fun σ => passAt tk σ) ps' hst hpl ht, fun O fp H ρ σ Q S h => oo.thn S.tr S .refl (fun _ => .refl) h id fun w ρ1 u H1 O1 fp1 g1 _ S1 E1 _ I1 R1 F1 h1 => ?_⟩
  by_cases hi : isObjD nm m w ρ1 = true
  · simp only [if_pos hi] at h1
    obtain ⟨a, dx, vs, eu, hob, hl⟩ := isObjD_ok hi R1 S1
    refine ⟨a, dx, vs, eu, hob, hl, os.thn S.tr S1 E1 I1 h1 id fun ws ρ2 us H2 O2 fp2 g2 _ S2 E2 E12 I2 R2 F2 h2 => ?_⟩
    obtain ⟨hl, h2⟩ := ite_len (ws := w :: ws) h2
    refine Post.call (ws := w :: ws) (g1 := g1 ++ g2) (by rw [← hl]; simp [R2.len]) S.tr S2 E2 I2 ⟨u, us, g1, g2, rfl, R1.per S1 E12, R2, rfl, fun a h1 h2 => (F2 a h2).elim (R1.trk a h1).ne (R1.own a h1).2⟩ (fun a ha => ?_) h2
    rcases List.mem_append.mp ha with q | q
    · exact F1 a q
    · exact fresh_of E1 F2 a q
  · simp only [if_neg hi] at h1
    exact h1.elim
theorem ve_meth0 {nm : Str} {pl : Sem Bool} (hK : X.K = c.K) (ho : VE c X W b o fa) (cl : Cls c.K (c.cl nm)) (hm : Meth c.K (c.cl nm) m f) (Fk : FnOk X.prog X.w X.K X.mg X.base (L2.CX X.prog X.w) k f fd ps (spV c.toVb n F)) (hr : Room k X.A) (hb : Binds X.K fd ps []) (tk : Takes X W)
    (ht : eval (.Call (.Attribute o m apos) [] [] pos) X.env = (do
      let ov ← eval o X.env
      standAt apos.atName
      let (f, first) ← holding [ov] (getMethod ov m pl)
      callWith pos f first (backTo pos (starEach [] X.env)) (backToKw pos (keywordEach [] X.env))) := by rfl) :
    VE c X W b (.Call (.Attribute o m apos) [] [] pos) (vMeth nm m n F fa vNil) := by
  obtain ⟨to, po, oo⟩ := ho
  refine ⟨_, pe_methS0 po (by rw [hK]; exact cl) (by rw [hK]; exact hm) Fk hr hb (fun σ => passAt tk σ) ht, fun O fp H ρ σ Q S h => oo.thn S.tr S .refl (fun _ => .refl) h id fun w ρ1 u H1 O1 fp1 g1 _ S1 E1 _ I1 R1 F1 h1 => ?_⟩
  by_cases hi : isObjD nm m w ρ1 = true
  · simp only [if_pos hi] at h1
    obtain ⟨a, dx, vs, eu, hob, hl⟩ := isObjD_ok hi R1 S1
    refine ⟨a, dx, vs, eu, hob, hl, ?_⟩
    have h1 : Post (RV c) c W b O fp H σ ((if ([w] : List Val).length = n then kCall F [w] else fun _ => none) ρ1) Q := h1
    obtain ⟨hl, h2⟩ := ite_len (ws := [w]) h1
    exact Post.call (ws := [w]) (g1 := g1 ++ []) (by rw [← hl]; simp) S.tr S1 E1 I1 ⟨u, [], g1, [], rfl, R1, ⟨rfl, rfl⟩, rfl, fun a _ q => (by cases q)⟩ (by simpa using F1) h2
  · simp only [if_neg hi] at h1
    exact h1.elim

/-! ### an object is made -/
def kMake (nm : Str) (F : FF) (ws : List Val) : FE := fun ρ => match (fzs ws).bind fun ds => F (.obj nm [] :: ds.map .fr) with
  | some (.ret (.fr .non) (t :: _)) => if t.isOwn then some (.val (.nw t) ρ) else none
  | some (.exc x _) => some (.exc x ρ)
  | _ => none
def vMake (nm : Str) (n : Nat) (F : FF) (fs : FG (List Val)) : FE := bnd fs fun ws => if ws.length + 1 = n then kMake nm F ws else fun _ => none
theorem ve_make {nm : Str} (hK : X.K = c.K) (M : Mk c.K (c.cl nm) f) (Fk : FnOk X.prog X.w X.K X.mg X.base (L2.CX X.prog X.w) k f fd ps (spV c.toVb n F)) (hr : Room (k + 1) X.A) (hg : Gl X x) (hm : X.mg x = some (.ref (c.cl nm))) (hb : Binds X.K fd ps []) (tk : Takes X W)
    (ha : VA c X W b (e :: es) fs) (hdb : (x == ("__debug__" : Str)) = false := by decide) (he : starEach (e :: es) X.env = (false, eval e X.env) :: starEach es X.env := by rfl) (hpl : (backTo pos (starEach es X.env)).any (·.1) = false := by rfl) :
    VE c X W b (.Call (.Name x p) (e :: es) [] pos) (vMake nm n F fs) := by
  obtain ⟨ts, ps', os⟩ := ha
  refine ⟨_, pe_makeS (by rw [hK]; exact M) Fk hr hg hm hb (fun σ => passAt tk σ) ps' hdb he hpl, fun O fp H ρ σ Q S h => os.thn S.tr S .refl (fun _ => .refl) h id fun ws ρ1 us H1 O1 fp1 g1 _ S1 E1 _ I1 R1 F1 h1 => ?_⟩
  by_cases hl : ws.length + 1 = n
  · simp only [if_pos hl] at h1
    intro y dx hy hdx ne
    have kp2 : ∀ a, H1 a ≠ none → upd (upd H1 dx (.own y)) y (.ins (c.cl nm) dx []) a = H1 a := fun a h => by rw [upd_ne (fun q => h (by rw [q]; exact hy)), upd_ne (fun q => h (by rw [q]; exact hdx))]
    have hy2 : upd (upd H1 dx (.own y)) y (.ins (c.cl nm) dx []) y = some (.ins (c.cl nm) dx []) := upd_same
    generalize upd (upd H1 dx (.own y)) y (.ins (c.cl nm) dx []) = H2 at kp2 hy2
    unfold kMake at h1
    cases ef : fzs ws with
    | none => simp only [ef, Option.bind_none] at h1; exact h1.elim
    | some ds =>
      simp only [ef, Option.bind_some] at h1
      have R := R1.rest (O1 := fun a => O1 a ∧ a ∉ g1) ef (fun a q => q.1) (fun a ha q => q.2 ha)
      have S2 := S1.less fun a ha => (R1.own a ha).2
      have E2 := E1.less S.tr F1
      -- the callee's own: y alone; nobody else's changes
      have R' : RDs c (fun a => (O1 a ∧ a ∉ g1) ∨ a = y) H2 ds us := R.stb (.of (fun a _ h => kp2 a h.ne) fun a h => h.imp id fun q => by rw [q]; exact hy)
      refine ⟨by rw [← hl]; simp [R1.len], fun a => (O1 a ∧ a ∉ g1) ∨ a = y, [y], .obj nm [] :: ds.map .fr, ⟨.ref y, us, [y], [], rfl, ⟨y, dx, [], [], rfl, hy2, ⟨rfl, rfl⟩, rfl⟩, R'.rts, rfl⟩, by simp, fun a ha => .inr (by simpa using ha),
        fun a h => h.elim (fun q => by rw [kp2 a (S2.tr a q).ne]; exact S2.tr a q) fun q => by rw [q]; exact .of hy2, fun P hP => by
          obtain ⟨ps, e, k⟩ := S2.tb P hP
          exact ⟨ps, by rw [kp2 P (by rw [e]; simp)]; exact e, k⟩, ?_⟩
      have E3 : Ext fp1 (fun a => O1 a ∧ a ∉ g1) H1 fp1 (fun a => (O1 a ∧ a ∉ g1) ∨ a = y) H2 := ⟨fun a h _ => kp2 a h.ne, fun a h => by rw [kp2 a h]; exact h, fun a h _ => .inl h, fun a h => h.imp id fun q => by rw [q]; exact hy, fun a h => .inl h⟩
      have adv : ∀ {fq : List Addr} {O' : Addr → Prop} {H' : Hp}, Ext [y] (fun a => (O1 a ∧ a ∉ g1) ∨ a = y) H2 fq O' H' → (∀ b, O' b → nT (H' b)) → Tabs c H' → SR c O' fp1 H' ρ1 σ ∧ Ext fp O H fp1 O' H' ∧ Ins H1 H' := fun {fq O' H'} Eq tr tb => by
        have ny : ∀ a, H1 a ≠ none → a ∉ [y] := fun a h q => h (by simp at q; rw [q]; exact hy)
        have kp : ∀ a, nT (H1 a) → H' a = H1 a := fun a h => (Eq.kp a (by rw [kp2 a h.ne]; exact h) (ny a h.ne)).trans (kp2 a h.ne)
        have on : ∀ a, O' a → (O1 a ∧ a ∉ g1) ∨ H1 a = none := fun a h => (Eq.on a h).elim (fun q => q.imp id fun z => by rw [z]; exact hy) fun q => .inr (Classical.byContradiction fun z => by rw [kp2 a z] at q; exact z q)
        refine ⟨⟨S2.rs.stb (.of (fun a _ h => kp a h) on) fun a ha => kp a (S2.tr a (S2.ow a ha)), S2.nd, fun a ha => Eq.ok a (.inl (S2.ow a ha)) (ny a (S2.tr a (S2.ow a ha)).ne), tr, tb, fun p hp => (S2.px p hp).stb (.of (fun a _ h => kp a h) on)⟩, ?_, kp⟩
        exact E2.trans ⟨fun a h _ => kp a h, fun a h => Eq.th a (by rw [kp2 a h]; exact h), fun a h _ => Eq.ok a (.inl h) (ny a (S2.tr a h).ne), on, fun a ha => .inl ha⟩ S.tr
      cases ea : F (.obj nm [] :: ds.map .fr) with
      | none => simp only [ea] at h1; exact h1.elim
      | some a =>
        cases a with
        | exc x ts' =>
          simp only [ea] at h1
          intro cls d H' O' fq r nd ow tr tb Eq R'
          obtain ⟨S3, E3, I3⟩ := adv Eq tr tb
          exact h1 cls d H' O' fp1 S3 E3 R'
        | ret w ts' =>
          cases w with
          | fr d =>
            cases d with
            | non =>
              cases ts' with
              | nil => simp only [ea] at h1; exact h1.elim
              | cons t ts' =>
                simp only [ea] at h1
                by_cases ho : t.isOwn = true
                · rw [if_pos ho] at h1
                  intro u H' O' fq g r nd ow tr tb Eq R' Fg
                  obtain ⟨S3, E3, I3⟩ := adv Eq tr tb
                  obtain ⟨v, vr, f1, f2, ev, r1, r2, eq⟩ := r
                  have ey : v = .ref y := by simpa using (List.cons.inj ev).1.symm
                  subst ey
                  have hin : ∀ a ∈ f1, a ∈ fq ++ g := fun a ha => by rw [eq]; simp [ha]
                  have fr1 : ∀ a ∈ f1, H1 a = none := fun a ha => by
                    rcases Eq.fn a (by rw [eq]; simp [ha]) with q | q
                    · simp at q; rw [q]; exact hy
                    · exact Classical.byContradiction fun z => by rw [kp2 a z] at q; exact z q
                  refine ⟨R'.1, h1 _ H' O' fp1 f1 S3 E3 (fun q => (I1 q).trans I3) ⟨r1, ?_, fun a ha => ⟨ow a (hin a ha), fun q => (S1.tr a (S1.ow a q)).ne (fr1 a ha)⟩⟩ fun a ha => .inl (Classical.byContradiction fun z => E1.th a z (fr1 a ha))⟩
                  rw [eq] at nd
                  exact (List.nodup_append.mp (List.nodup_append.mp nd).1).1
                · rw [if_neg ho] at h1
                  exact h1.elim
            | _ => simp only [ea] at h1; exact h1.elim
          | _ => simp only [ea] at h1; exact h1.elim
  · simp only [if_neg hl] at h1
    exact h1.elim
end
end Vl

namespace Vl
open PySem PySem.Spec PyProof.Rows L2 GxR
section
variable {X : Cx} {pins : List (Addr × Obj)} {σ : L2.St} {H : Hp} {s : Shared}
/-- what the element's code may lean on: s1 the state at the making, s2 the state at a turn -/
structure GK (X : Cx) (H1 : Hp) (P : Addr) (s1 s2 : Shared) : Prop where
  keep : ∀ b o, b ≠ P → s1.heap.get? b = some o → s2.heap.get? b = some o
/-- the element: a test of the i-th item -/
def EltL (X : Cx) (scope : Scope) (x : Str) (elt : Expr) (xs : List V) (pb : Nat → Bool) (H1 : Hp) (P : Addr) (s1 : Shared) : Prop :=
  ∀ (cenv : PySem.Env) (A' : Around) (E' : Value → Shared → Prop) (i : Nat) (xv : V) (u : Value) (s2 : Shared) (m2 : Str → Option Value), cenv.scope = scope → cenv.cells = cloFrom X.env.cells scope.names [] → cenv.globals = X.env.globals → A'.handled = none → A'.units ≤ X.A.units + 8 →
    xs[i]? = some xv → RelV xv u → s2.heap.Ns cenv.locals m2 → m2 x = some u → GK X H1 P s1 s2 →
    wpAny (model X.prog X.w) A' (eval elt cenv) (fun y s3 => y = .bool (pb i) ∧ Keeps s2 s3) E' s2
/-- the generator g over n items, ready to be walked, in the state s5 -/
def ReadyN (X : Cx) (pins : List (Addr × Obj)) (σ : L2.St) (H1 : Hp) (P : Addr) (n : Nat) (pb : Nat → Bool) (g : Addr) (s5 : Shared) : Prop :=
  ∃ (fp wr : List Addr) (G : Array GenState → Array GenState → Prop) (F : Nat → Value → Prop) (St : Nat → Shared → Prop),
    WalksS X.prog X.w X.A.in1 g fp wr G n F St ∧ St 0 s5 ∧ TruthOf X.prog X.w X.A.in1 F pb ∧ ∀ s', Moved wr G s5 s' → ∃ H2, Tabbed P H1 H2 ∧ Inv X pins σ H2 s'
theorem gen_list {c P : Addr} {elt iter : Expr} {x : Str} {px gpos : Pos} {scope : Scope} {te : TE} {k : Nat} {Q' : Value → Shared → Prop} {R : List V → (Nat → Bool) → Hp → Prop}
    (hr : Room k X.A) (TB : TabB X.base X.mg c P) (hcode : X.env.code = .ref c) (S : GenS X.env scope x) (hi : PE X iter te)
    (hs : ∀ v, genFold iter X.env v = pure v) (I : Inv X pins σ H s)
    (h : te σ H fun v H1 => ∃ (l : Addr) (xs : List V) (pb : Nat → Bool), v = .ref l ∧ SqL X.K H1 l xs ∧ TabG H1 P ∧ (∀ pins s1, Inv X pins σ H1 s1 → EltL X scope x elt xs pb H1 P s1) ∧ R xs pb H1)
    (hQ : ∀ xs pb H1 g s5, R xs pb H1 → ReadyN X pins σ H1 P xs.length pb g s5 → Q' (.ref g) s5) :
    wpAny (model X.prog X.w) X.A (eval (.GeneratorExp elt [⟨.Name x px, iter, [], 0⟩] scope gpos) X.env) Q' X.xe s := by
  refine wpAny_GeneratorExp_walksQD hr.hd S.co (closure_ok S.free) S.cell S.dot S.loc S.kind (by have := hr.dp; omega) ?_ hs
  refine L2.thn (hi.run pins s σ H _ I h) fun xv s1 ⟨v, H1, I1, r1, q1⟩ => ?_
  obtain ⟨l, xs, pb, rfl, hsq, ⟨ps, hP, ht⟩, hel, q1⟩ := q1
  cases r1
  have hel := hel pins s1 I1
  obtain ⟨its, rv, pl, hz⟩ := I1.list hsq
  have hl := pl.isList
  have hlt : l < s1.heap.objs.size := by obtain ⟨_, e, _⟩ := hl; exact Heap.lt_size e
  refine wpAny_pyIter_list hl ?_
  generalize ho : ({ cls := .type "list_iterator", data := .fields #[.ref l, .int 0 0] } : Obj) = o
  have hPs : s1.heap.get? P = some { cls := .none, data := .fields ps } := I1.hok P _ hP
  have hPlt : P < s1.heap.objs.size := Heap.lt_size hPs
  have hlP : l ≠ P := fun e => by
    obtain ⟨_, e1, e2, _⟩ := hl
    rw [e, hPs] at e1
    cases e1
    cases e2
  have hP2 : (s1.heap.push o).get? P = some { cls := .none, data := .fields ps } := Heap.get?_push_of_some _ hPs
  have cd : PySem.W.CodeHd (s1.heap.push o) c P := TB.code.keeps fun b u e => Heap.get?_push_of_some _ (I1.bk b u e)
  have lim2 : (s1.heap.push o).NoLimit := I1.nolimit.push o
  have hst : (s1.heap.push o).IsListIter s1.heap.objs.size l 0 ∧ (s1.heap.push o).IsList l its.toArray := ⟨by subst ho; exact ⟨_, Heap.get?_push_size _ rfl, rfl, rfl⟩, hl.push _⟩
  have W : ∀ A' : Around, A'.handled = none → Walks X.prog X.w A' s1.heap.objs.size [s1.heap.objs.size, l] [s1.heap.objs.size] its.toArray.size (fun i v => its.toArray[i]? = some v) (fun i h => h.IsListIter s1.heap.objs.size l i ∧ h.IsList l its.toArray) :=
    fun A' hA => Walks.list hA _ l (Nat.ne_of_lt hlt) its.toArray
  have nlen : its.toArray.size = xs.length := by have := rv.length; simpa using this.symm
  have cont : ∀ (code : Value) (h3 : Heap) (tk : Nat) (ps' : Array Value), Heap.ExtBut P (s1.heap.push o) h3 → (s1.heap.push o).objs.size ≤ h3.objs.size → h3.get? P = some { cls := .none, data := .fields ps' } → (∃ more, ps' = ps ++ more) → TriplesOk ps'.toList →
      wpAny (model X.prog X.w) X.A (builtinsFor X.env.globals X.env.builtins) (fun bi s4 =>
        ∃ Ia fp wr n0 Pf St0 pz F, Value.ref s1.heap.objs.size = .ref Ia ∧ (∀ A' : Around, A'.handled = none → Walks X.prog X.w A' Ia fp wr n0 Pf St0) ∧ St0 0 s4.heap ∧ (∀ b ∈ fp, b < s4.heap.objs.size) ∧ s4.heap.NoLimit ∧ cStatics ∉ wr ∧
          (∀ href : Heap, (∀ b o, s4.heap.get? b = some o → href.get? b = some o) →
            QuietGenD X.prog X.w (genEnv scope (cloFrom X.env.cells scope.names []) s4.heap.objs.size code bi X.env) x [] elt (List.range s4.heap.objs.size) wr Pf pz F href (X.A.depth + 1) (X.A.units + 8)) ∧
          (∀ a h5 tk gs, gs.bare = true → s4.heap.objs.size < a → h5.objs.size = a + 1 → (∀ b o, s4.heap.get? b = some o → h5.get? b = some o) →
            WalksS X.prog X.w X.A.in4 a (a :: s4.heap.objs.size :: List.range s4.heap.objs.size) (s4.heap.objs.size :: wr) (GenOnlyQ s4.gens.size) (passing pz n0 0).length
              (fun j y => ∃ i, (passing pz n0 0)[j]? = some i ∧ F i y) (GenAt X.prog X.w X.A.in4 a s4.gens.size s4.heap.objs.size (List.range s4.heap.objs.size) wr pz n0 F) →
            GenAt X.prog X.w X.A.in4 a s4.gens.size s4.heap.objs.size (List.range s4.heap.objs.size) wr pz n0 F 0 { s4 with gens := s4.gens.push gs, toks := tk, heap := h5 } →
            Q' (.ref a) { s4 with gens := s4.gens.push gs, toks := tk, heap := h5 })) X.xe { s1 with heap := h3, toks := tk } := by
    intro code h3 tk ps' hx hsz hP3 hmore ht3
    obtain ⟨bm, ob, e1, e2, e3, e4, e5, e6, e7, e8⟩ := TB.bm
    have hcP : cStatics ≠ P := fun e => by
      obtain ⟨_, hns, _⟩ := I1.nolimit
      obtain ⟨o', es, ep, ho, hd, _⟩ := hns
      rw [e, hPs] at ho
      cases ho
      cases hd
    have hcl : cStatics < s1.heap.objs.size := let ⟨_, hns, _⟩ := I1.nolimit; hns.lt
    have sz2 : (s1.heap.push o).objs.size = s1.heap.objs.size + 1 := Heap.size_push ..
    have keep3 : ∀ b u, b ≠ P → s1.heap.get? b = some u → h3.get? b = some u := fun b u hb e => hx b u hb (Heap.get?_push_of_some _ e)
    refine wpAny_builtinsFor (m := X.mg) (by rw [I1.ok.glob]; exact ((I1.mod.glob.keeps I1.bk).push o).extBut hx TB.gP) e1 e2 (keep3 _ _ e4 (I1.bk _ _ e5)) e6 e7 e8 ?_
    refine ⟨s1.heap.objs.size, [s1.heap.objs.size, l], [s1.heap.objs.size], its.toArray.size, (fun i v => its.toArray[i]? = some v), _, (fun _ => true), (fun i y => i < xs.length ∧ y = .bool (pb i)), rfl, W, ?_, ?_, lim2.extBut hx hcP, ?_, ?_, ?_⟩
    · refine (W X.A hr.hd).frame _ _ _ hst fun b hb u e => hx b u (fun z => ?_) e
      rcases List.mem_cons.mp hb with z2 | z2
      · exact Nat.ne_of_lt hPlt (z.symm.trans z2)
      · rcases List.mem_cons.mp z2 with z2 | z2
        · exact hlP (z2.symm.trans z)
        · cases z2
    · intro b hb
      rcases List.mem_cons.mp hb with z | z
      · rw [z]
        show s1.heap.objs.size < h3.objs.size
        omega
      · rcases List.mem_cons.mp z with z | z
        · rw [z]
          show l < h3.objs.size
          exact Nat.lt_of_lt_of_le (Nat.lt_succ_of_lt hlt) (by omega)
        · cases z
    · intro z
      rcases List.mem_cons.mp z with z | z
      · exact Nat.ne_of_lt hcl z
      · cases z
    · intro href hhref
      refine ⟨fun A' E' i v s2 m2 hA _ _ hPv hn hm hk => ?_, fun A' E' i v s2 m2 hA _ hU hPv hp hn hm hk => ?_⟩
      · simp only [List.forIn_nil]
        exact wpAny_pure ⟨rfl, keeps_refl _⟩
      · have hPv' : its[i]? = some v := by simpa using hPv
        obtain ⟨hil, _⟩ := List.getElem?_eq_some_iff.mp hPv'
        have hxl : i < xs.length := by rw [rv.length]; exact hil
        obtain ⟨u, hu, ru⟩ := rv.get (List.getElem?_eq_getElem hxl)
        rw [hPv'] at hu
        cases hu
        refine wpAny_mono (hel _ A' E' i _ v s2 m2 rfl rfl rfl hA hU (List.getElem?_eq_getElem hxl) ru hn hm ⟨fun b o' hb e => ?_⟩) (fun y s3 r => ⟨⟨hxl, r.1⟩, r.2⟩) fun _ _ e => e
        have hb1 := Heap.lt_size e
        refine hk b (List.mem_range.mpr (Nat.lt_of_lt_of_le (Nat.lt_succ_of_lt hb1) (by show s1.heap.objs.size.succ ≤ h3.objs.size; omega))) (fun z => ?_) o' (hhref b o' (keep3 b o' hb e))
        rcases List.mem_cons.mp z with z | z
        · exact Nat.ne_of_lt hb1 z
        · cases z
    · intro g h5 tk5 gs hgb hag hsz5 hk5 W5 hat
      simp only [GxR.passing_true, List.length_range] at W5
      rw [nlen] at W5 hat
      refine hQ xs pb H1 g _ q1 ⟨_, _, _, _, _, W5.in4_1, hat, ?_, fun s' hm => ?_⟩
      · intro j y sj Qj Ej hy hQj
        obtain ⟨i, hij, hi, rfl⟩ := hy
        obtain ⟨hj, ej⟩ := List.getElem?_eq_some_iff.mp hij
        rw [List.getElem_range] at ej
        subst ej
        exact wpAny_truthy_bool hQj
      · obtain ⟨more, em⟩ := hmore
        have nwr : ∀ b u, s1.heap.get? b = some u → b ∉ h3.objs.size :: [s1.heap.objs.size] := fun b u e hb => by
          have hl := Heap.lt_size e
          rcases List.mem_cons.mp hb with z | z
          · rw [z] at hl
            have h9 : (h3.objs.size : Nat) < s1.heap.objs.size := hl
            omega
          · rcases List.mem_cons.mp z with z | z
            · rw [z] at hl
              exact Nat.lt_irrefl _ hl
            · cases z
        have J := inv_tab (more := more) (h' := s'.heap) (g' := s'.gens) (d' := s'.drawn) (t' := s'.toks) I1 hP (fun b u hb e => hm.heap b u (nwr b u e) (hk5 b u (keep3 b u hb e)))
          (by rw [← em]; exact hm.heap P _ (nwr P _ hPs) (hk5 P _ hP3)) (AllBare.movedS (I1.bare.push hgb) hm)
        rw [sh_eta s1 s' hm.os] at J
        refine ⟨upd H1 P (.tbl (ps ++ more)), ⟨⟨ps ++ more, upd_same, by rw [← em]; exact ht3⟩, fun b hb => upd_ne hb⟩, J⟩
  refine ⟨lim2, ?_⟩
  cases hf : codeAmong gpos ps.toList with
  | none =>
    refine wpAny_genexprCodeX hcode (cd.code hP2 ht) (cd.tab hP2) hf fun c' h' tk hx hge hlt hco' _ htab' _ => ?_
    obtain ⟨o1, vs, f1, tf, fl, tg, inF, tx, tt, op, _, _, _, _, _, _, _, _, _, htr, _⟩ := hco'
    exact cont _ h' tk _ hx (Nat.le_trans hge (Nat.le_of_lt hlt)) htab'.2 ⟨_, rfl⟩ htr
  | some cv =>
    refine wpAny_genexprCode_hit hcode (cd.code hP2 ht) hf ?_
    exact cont cv (s1.heap.push o) s1.toks ps (Heap.ExtBut.refl _ _) (Nat.le_refl _) hP2 ⟨#[], by simp⟩ ht
end
end Vl

namespace Vl
open PySem PySem.Spec PyProof.Rows L2 GxR
/-- what a generator expression's element is evaluated in -/
structure GQ (X : Cx) (σ : L2.St) (H : Hp) (scope : Scope) (x : Str) (cenv : PySem.Env) (A' : Around) (xv : V) (s2 : Shared) : Prop where
  sc : cenv.scope = scope
  kd : scope.kind = .function
  lx : scope.names.lookup x = some .local
  hA : A'.handled = none
  hU : A'.units ≤ X.A.units + 8
  item : ∃ m2 u, s2.heap.Ns cenv.locals m2 ∧ m2 x = some u ∧ RelV xv u
  vars : ∀ (i : Nat) (y : Str) (w : V), X.N[i]? = some y → σ[i]? = some (some w) → scope.names.lookup y = some .free → ∃ cc u, cenv.cells.lookup y = some cc ∧ s2.heap.IsCell cc (some u) ∧ RelV w u
  hok : ∀ a o, H a = some o → isTb o = false → ObjOk X.prog X.w H s2.heap a o
  kin : X.K.In s2.heap
section
variable {c : Vc} {X : Cx} {pins : List (Addr × Obj)} {σ : L2.St} {H : Hp} {s s1 s2 s3 : Shared} {scope : Scope} {x : Str} {cenv : PySem.Env} {A' : Around} {xv : V} {P : Addr}
theorem GQ.keeps (g : GQ X σ H scope x cenv A' xv s2) (k : Keeps s2 s3) : GQ X σ H scope x cenv A' xv s3 := by
  obtain ⟨h', tk, rfl, k⟩ := k
  obtain ⟨m2, u, hn, hm, r⟩ := g.item
  refine ⟨g.sc, g.kd, g.lx, g.hA, g.hU, ⟨m2, u, hn.at fun o e => k _ o e, hm, r⟩, fun i y w h1 h2 h3 => ?_, fun a o e t => (g.hok a o e t).stay (fun b u _ q => k b u q) (fun _ q => q) fun _ _ q => q, g.kin.keeps k⟩
  obtain ⟨cc, u, e1, ⟨o, e2, e3⟩, e4⟩ := g.vars i y w h1 h2 h3
  exact ⟨cc, u, e1, ⟨o, k _ _ e2, e3⟩, e4⟩
theorem Keeps.trans' {s1 s2 s3 : Shared} (a : Keeps s1 s2) (b : Keeps s2 s3) : Keeps s1 s3 := by
  obtain ⟨h1, t1, rfl, k1⟩ := a
  obtain ⟨h2, t2, rfl, k2⟩ := b
  exact ⟨h2, t2, rfl, fun b o e => k2 b o (k1 b o e)⟩
/-- every captured name of the scope is a cell (or captured) of the def around -/
def FreeOk (X : Cx) (scope : Scope) : Prop := ∀ y ∈ scope.names, y.2 = .free → X.env.kindOf y.1 = some .cell ∨ X.env.kindOf y.1 = some .free
theorem FreeOk.cells (h : FreeOk X scope) (ok : X.Ok) : ∀ y ∈ scope.names, y.2 = .free → ∃ c, X.env.cells.lookup y.1 = some c := fun y hy e => ok.has _ (h y hy e)
theorem GQ.of {m2 : Str → Option Value} {u : Value} {i : Nat} (I : Inv X pins σ H s1) (hP : ∃ ps, H P = some (.tbl ps)) (G : GK X H P s1 s2) (hf : FreeOk X scope) (kd : scope.kind = .function) (lx : scope.names.lookup x = some .local) (sc : cenv.scope = scope) (ce : cenv.cells = cloFrom X.env.cells scope.names [])
    (hA : A'.handled = none) (hU : A'.units ≤ X.A.units + 8) (hn : s2.heap.Ns cenv.locals m2) (hm : m2 x = some u) (r : RelV xv u) : GQ X σ H scope x cenv A' xv s2 := by
  obtain ⟨ps, hP⟩ := hP
  have neP : ∀ b v, H b = some v → isTb v = false → b ≠ P := fun b v e t z => by
    rw [z, hP] at e
    cases e
    cases t
  have neN : ∀ b, H b = none → b ≠ P := fun b e z => by
    rw [z, hP] at e
    cases e
  refine ⟨sc, kd, lx, hA, hU, ⟨m2, u, hn, hm, r⟩, fun i y w h1 h2 h3 => ?_, fun a o e t => ?_, fun a o e => ?_⟩
  · have hy := PySem.mem_of_lookup h3
    obtain ⟨m, hn', hl⟩ := I.loc
    have kk := hf _ hy rfl
    have vis : Vis X.env.scope y := kk.elim (fun q => .inr (.inl q)) fun q => .inr (.inr q)
    obtain ⟨u', r', l⟩ := hl i y w h1 h2 vis
    rcases l with ⟨k, _⟩ | ⟨_, cc, e, z⟩
    · rcases kk with q | q <;> (rw [k] at q; cases q)
    · refine ⟨cc, u', by rw [ce]; exact NdefX.clo_has (hf.cells I.ok) hy e, ?_, r'⟩
      obtain ⟨o, e2, e3⟩ := z
      exact ⟨o, G.keep cc o (neN cc (I.freeC y cc e)) e2, e3⟩
  · refine (I.hok a o e).stay (fun b u hb q => G.keep b u ?_ q) (fun _ q => q) fun _ _ q => q
    rcases hb with q | q
    · rw [q]; exact neP a o e t
    · exact neP b _ q rfl
  · obtain ⟨e1, e2⟩ := I.bs a o (I.ok.mod.kin a o e)
    exact G.keep a o (neN a e2) e1
/-- the element's code e gives what f says of the item -/
def VQ (c : Vc) (X : Cx) (scope : Scope) (x : Str) (e : Expr) (f : Env → D → Option D) : Prop :=
  ∀ O fp H ρ σ d xv dy cenv A' (E' : Value → Shared → Prop) s2, SR c O fp H ρ σ → RD c O H d xv → f ρ d = some dy → GQ X σ H scope x cenv A' xv s2 →
    wpAny (model X.prog X.w) A' (eval e cenv) (fun y s3 => (∃ vy, RelV vy y ∧ Pk c O H dy vy) ∧ Keeps s2 s3) E' s2
variable {a b e e' : Expr} {fa fb fc : Env → D → Option D} {pos : Pos}
theorem vq_item {p : Pos} (hd : (x == ("__debug__" : Str)) = false := by decide) : VQ c X scope x (.Name x p) (fun _ d => some d) := fun O fp H ρ σ d xv dy cenv A' E' s2 S R e G => by
  cases e
  obtain ⟨m2, u, hn, hm, r⟩ := G.item
  exact wpAny_Name (wpAny_loadName_local (by rw [G.sc]; exact G.kd) (show cenv.scope.names.lookup x = some .local by rw [G.sc]; exact G.lx) hn hm ⟨⟨xv, r, R.pk⟩, keeps_refl _⟩) hd
theorem vq_int {i : Int} {j : Nat} : VQ c X scope x (.Constant (.int i) j pos) (fun _ _ => some (.int i)) := fun O fp H ρ σ d xv dy cenv A' E' s2 S R e G => by
  cases e
  exact wpAny_Constant_int ⟨⟨.int i, ⟨_, rfl⟩, rfl⟩, keeps_tok _ _⟩
theorem vq_str {i : Str} {j : Nat} : VQ c X scope x (.Constant (.str i) j pos) (fun _ _ => some (.str i)) := fun O fp H ρ σ d xv dy cenv A' E' s2 S R e G => by
  cases e
  exact Calls.Constant_str ⟨⟨.str i, ⟨_, rfl⟩, rfl⟩, keeps_tok _ _⟩
/-- a captured name, slot i of the def around -/
theorem vq_var (i : Nat) {y : Str} {p : Pos} (hN : X.N[i]? = some y := by rfl) (hy : scope.names.lookup y = some .free := by rfl) (hd : (y == ("__debug__" : Str)) = false := by decide) (hcd : (y == ("__classdict__" : Str)) = false := by decide) :
    VQ c X scope x (.Name y p) (fun ρ _ => match ρ[i]? with | some (some t) => t.pk | _ => none) := fun O fp H ρ σ d xv dy cenv A' E' s2 S R e G => by
  cases q : ρ[i]? with
  | none => simp only [q] at e; cases e
  | some o =>
    cases o with
    | none => simp only [q] at e; cases e
    | some t =>
      simp only [q] at e
      obtain ⟨v, f, fl, fr, h1, h2, _⟩ := S.rs.get q
      obtain ⟨cc, u, e1, e2, r⟩ := G.vars i y v hN h1 hy
      exact wpAny_Name (wpAny_loadName_free (by rw [G.sc]; exact G.kd) (show cenv.scope.names.lookup y = some .free by rw [G.sc]; exact hy) e1 e2 ⟨⟨v, r, h2.pk e⟩, keeps_refl _⟩ hcd) hd
/-- two ints compared -/
def iCmp (p : Int → Int → Bool) : D → D → Option D
  | .int i, .int j => some (.bl (p i j))
  | _, _ => none
/-- the rule of one comparison -/
def CmpI (op : CmpOp) (p : Int → Int → Bool) : Prop := ∀ (prog : Program) (w : World) (A : Around) (E : Value → Shared → Prop) (s : Shared) (a b : Int) (t u : Tok) (Q : Value → Shared → Prop), Q (.bool (p a b)) s → wpAny (model prog w) A (compareOp op (.int a t) (.int b u)) Q E s
theorem cmpI_lt : CmpI .Lt fun i j => decide (i < j) := fun _ _ _ _ _ _ _ _ _ _ h => lt_int h
theorem cmpI_le : CmpI .LtE fun i j => decide (i ≤ j) := fun _ _ _ _ _ _ _ _ _ _ h => le_int h
theorem cmpI_gt : CmpI .Gt fun i j => decide (j < i) := fun _ _ _ _ _ _ _ _ _ _ h => gt_int h
theorem cmpI_ge : CmpI .GtE fun i j => decide (j ≤ i) := fun _ _ _ _ _ _ _ _ _ _ h => ge_int h
def q2 (g : D → D → Option D) (fa fb : Env → D → Option D) : Env → D → Option D := fun ρ d => (fa ρ d).bind fun x => (fb ρ d).bind fun y => g x y
theorem iCmp_some {p : Int → Int → Bool} {x y z : D} (h : iCmp p x y = some z) : ∃ i j, x = .int i ∧ y = .int j ∧ z = .bl (p i j) := by
  unfold iCmp at h
  split at h
  · cases h; exact ⟨_, _, rfl, rfl, rfl⟩
  · cases h
theorem q2_some {g : D → D → Option D} {ρ : Env} {d z : D} (h : q2 g fa fb ρ d = some z) : ∃ x y, fa ρ d = some x ∧ fb ρ d = some y ∧ g x y = some z := by
  obtain ⟨x, h1, h⟩ := Option.bind_eq_some_iff.mp h
  obtain ⟨y, h2, h⟩ := Option.bind_eq_some_iff.mp h
  exact ⟨x, y, h1, h2, h⟩
theorem vq_cmp {op : CmpOp} {p : Int → Int → Bool} (hr : CmpI op p) (ha : VQ c X scope x a fa) (hb : VQ c X scope x b fb) (hm : behindInMarks op b = false := by rfl) : VQ c X scope x (.Compare a [op] [b] pos) (q2 (iCmp p) fa fb) := fun O fp H ρ σ d xv dy cenv A' E' s2 S R e G => by
  obtain ⟨dx, dy', h1, h2, h3⟩ := q2_some e
  obtain ⟨i, j, rfl, rfl, rfl⟩ := iCmp_some h3
  refine wpAny_Compare1 (L2.thn (ha O fp H ρ σ d xv _ cenv A' E' s2 S R h1 G) fun u s3 ⟨⟨vu, r, pk⟩, k⟩ => L2.thn (hb O fp H ρ σ d xv _ cenv A' E' s3 S R h2 (G.keeps k)) fun w s4 ⟨⟨vw, r', pk'⟩, k'⟩ => ?_) hm
  obtain rfl : vu = .int i := pk
  obtain rfl : vw = .int j := pk'
  obtain ⟨t, rfl⟩ := r
  obtain ⟨t', rfl⟩ := r'
  exact hr _ _ _ _ _ _ _ _ _ _ ⟨⟨.bl _, rfl, rfl⟩, Keeps.trans' k k'⟩
/-- a op b op' e, ints -/
def qCh (p p' : Int → Int → Bool) (fa fb fc : Env → D → Option D) : Env → D → Option D := fun ρ d => match fa ρ d, fb ρ d with
  | some (.int i), some (.int j) => if p i j then (match fc ρ d with | some (.int k) => some (.bl (p' j k)) | _ => none) else some (.bl false)
  | _, _ => none
theorem vq_chain {op op' : CmpOp} {p p' : Int → Int → Bool} (hr : CmpI op p) (hr' : CmpI op' p') (ha : VQ c X scope x a fa) (hb : VQ c X scope x b fb) (hc : VQ c X scope x e fc) (hm : lastMarks [op, op'] [b, e] = false := by with_unfolding_all rfl) :
    VQ c X scope x (.Compare a [op, op'] [b, e] pos) (qCh p p' fa fb fc) := fun O fp H ρ σ d xv dy cenv A' E' s2 S R ee G => by
  unfold qCh at ee
  split at ee
  · rename_i i j h1 h2
    refine Compare_chain (L2.thn (ha O fp H ρ σ d xv _ cenv A' E' s2 S R h1 G) fun u s3 ⟨⟨vu, r, pk⟩, k⟩ => chain_link (L2.thn (hb O fp H ρ σ d xv _ cenv A' E' s3 S R h2 (G.keeps k)) fun w s4 ⟨⟨vw, r', pk'⟩, k'⟩ => ?_)) hm
    obtain rfl : vu = .int i := pk
    obtain rfl : vw = .int j := pk'
    obtain ⟨t, rfl⟩ := r
    obtain ⟨t', rfl⟩ := r'
    refine hr _ _ _ _ _ _ _ _ _ _ (wpAny_truthy_bool ?_)
    cases q : p i j with
    | false =>
      rw [q] at ee
      cases ee
      exact ite_ff ⟨⟨.bl false, rfl, rfl⟩, Keeps.trans' k k'⟩
    | true =>
      rw [q, if_pos rfl] at ee
      split at ee
      · rename_i m h3
        cases ee
        refine ite_tt (chain_last (L2.thn (hc O fp H ρ σ d xv _ cenv A' E' s4 S R h3 ((G.keeps k).keeps k')) fun w s5 ⟨⟨vw, r', pk'⟩, k''⟩ => ?_))
        obtain rfl : vw = .int m := pk'
        obtain ⟨t2, rfl⟩ := r'
        exact hr' _ _ _ _ _ _ _ _ _ _ ⟨⟨.bl _, rfl, rfl⟩, Keeps.trans' (Keeps.trans' k k') k''⟩
      · cases ee
  · cases ee
end

/-! ### any, all -/
section
variable {c : Vc} {X : Cx} {W : WX} {b b1 b2 : Bool} {O O1 O2 : Addr → Prop} {fp fp1 fp2 : List Addr} {H H1 H2 : Hp} {ρ ρ1 ρ2 : Env} {σ : L2.St}
variable {elt iter : Expr} {fa : FE} {pos : Pos} {fe : Env → D → Option D}
def tGen (X : Cx) (P : Addr) (scope : Scope) (x : Str) (elt : Expr) (te : TE) (fin : (Nat → Bool) → Nat → Bool) : TE := fun σ H Q => te σ H fun v H1 => ∃ (l : Addr) (xs : List V) (pb : Nat → Bool), v = .ref l ∧ SqL X.K H1 l xs ∧ TabG H1 P ∧
  (∀ pins s1, Inv X pins σ H1 s1 → EltL X scope x elt xs pb H1 P s1) ∧ ∀ H2, Tabbed P H1 H2 → Q (.bl (fin pb xs.length)) H2
theorem pe_anyL {cd P : Addr} {x : Str} {px p pos gpos : Pos} {scope : Scope} {te : TE} {k : Nat} (hr : Room k X.A) (hg : Gl X "any") (hm : X.mg "any" = none) (TB : TabB X.base X.mg cd P) (hcode : X.env.code = .ref cd) (S : GenS X.env scope x) (hi : PE X iter te)
    (hs : ∀ v, genFold iter X.env v = pure v) (he : starEach [.GeneratorExp elt [⟨.Name x px, iter, [], 0⟩] scope gpos] X.env = (false, eval (.GeneratorExp elt [⟨.Name x px, iter, [], 0⟩] scope gpos) X.env) :: starEach [] X.env := by rfl) :
    PE X (.Call (.Name "any" p) [.GeneratorExp elt [⟨.Name x px, iter, [], 0⟩] scope gpos] [] pos) (tGen X P scope x elt te fun pb n => (List.range n).any pb) := by
  refine ⟨fun pins s σ H Q I h => wpAny_Call_Name_kw (ld_blt I hg hm boot_any (PyProof.Rows.callWith_builtin1 ?_ he (by rfl)))⟩
  rw [he]
  show wpAny _ _ (spliced ((false, eval (.GeneratorExp elt [⟨.Name x px, iter, [], 0⟩] scope gpos) X.env) :: backTo pos (starEach [] X.env))) _ _ s
  refine Calls.spliced_cons (gen_list (R := fun xs pb H1 => ∀ H2, Tabbed P H1 H2 → Q (.bl ((List.range xs.length).any pb)) H2) hr TB hcode S hi hs I h fun xs pb H1 g s5 hR hG => ?_)
  · obtain ⟨fp, wr, G, F, St, W, hst, htr, hI⟩ := hG
    refine Calls.spliced_nil (call_any_walkS (W.self 0 _ _ _ hst ⟨g, fp, wr, G, _, F, St, _, rfl, W, hst, htr, fun s' hmv => ?_⟩))
    obtain ⟨H2, hT, J⟩ := hI s' hmv
    exact ⟨.bl _, H2, J, rfl, hR H2 hT⟩
theorem pe_allL {cd P : Addr} {x : Str} {px p pos gpos : Pos} {scope : Scope} {te : TE} {k : Nat} (hr : Room k X.A) (hg : Gl X "all") (hm : X.mg "all" = none) (hbl : bootBuiltins "all" = some (.builtin "all")) (TB : TabB X.base X.mg cd P) (hcode : X.env.code = .ref cd) (S : GenS X.env scope x) (hi : PE X iter te)
    (hs : ∀ v, genFold iter X.env v = pure v) (he : starEach [.GeneratorExp elt [⟨.Name x px, iter, [], 0⟩] scope gpos] X.env = (false, eval (.GeneratorExp elt [⟨.Name x px, iter, [], 0⟩] scope gpos) X.env) :: starEach [] X.env := by rfl) :
    PE X (.Call (.Name "all" p) [.GeneratorExp elt [⟨.Name x px, iter, [], 0⟩] scope gpos] [] pos) (tGen X P scope x elt te fun pb n => (List.range n).all pb) := by
  refine ⟨fun pins s σ H Q I h => wpAny_Call_Name_kw (ld_blt I hg hm hbl (PyProof.Rows.callWith_builtin1 ?_ he (by rfl)))⟩
  rw [he]
  show wpAny _ _ (spliced ((false, eval (.GeneratorExp elt [⟨.Name x px, iter, [], 0⟩] scope gpos) X.env) :: backTo pos (starEach [] X.env))) _ _ s
  refine Calls.spliced_cons (gen_list (R := fun xs pb H1 => ∀ H2, Tabbed P H1 H2 → Q (.bl ((List.range xs.length).all pb)) H2) hr TB hcode S hi hs I h fun xs pb H1 g s5 hR hG => ?_)
  · obtain ⟨fp, wr, G, F, St, W, hst, htr, hI⟩ := hG
    refine Calls.spliced_nil (call_all_walkS (W.self 0 _ _ _ hst ⟨g, fp, wr, G, _, F, St, _, rfl, W, hst, htr, fun s' hmv => ?_⟩))
    obtain ⟨H2, hT, J⟩ := hI s' hmv
    exact ⟨.bl _, H2, J, rfl, hR H2 hT⟩
/-- a quantifier over a list at rest -/
def kQ (fe : Env → D → Option D) (qf : (D → Option Bool) → List D → Option Bool) (w : Val) : FE := fun ρ => match vw ρ w with
  | some (.lst ds) => (qf (fun d => match fe ρ d with | some (.bl k) => some k | _ => none) ds).map fun k => .val (.fr (.bl k)) ρ
  | _ => none
def allM (g : D → Option Bool) : List D → Option Bool
  | [] => some true
  | d :: ds => (g d).bind fun k => (allM g ds).map fun r => k && r
def anyM (g : D → Option Bool) : List D → Option Bool
  | [] => some false
  | d :: ds => (g d).bind fun k => (anyM g ds).map fun r => k || r
theorem allM_some {g : D → Option Bool} : ∀ {ds : List D} {k : Bool}, allM g ds = some k → ∃ pb : Nat → Bool, (∀ i d, ds[i]? = some d → g d = some (pb i)) ∧ (List.range ds.length).all pb = k
  | [], k, h => by cases h; exact ⟨fun _ => true, fun i d h => by simp at h, rfl⟩
  | d :: ds, k, h => by
    obtain ⟨k1, h1, h⟩ := Option.bind_eq_some_iff.mp h
    obtain ⟨r, h2, h⟩ := Option.map_eq_some_iff.mp h
    obtain ⟨pb, q1, q2⟩ := allM_some h2
    refine ⟨fun i => match i with | 0 => k1 | i + 1 => pb i, fun i d' e => ?_, ?_⟩
    · cases i with
      | zero => simp at e; subst e; exact h1
      | succ i => exact q1 i d' (by simpa using e)
    · rw [List.length_cons, List.range_succ_eq_map, List.all_cons, List.all_map, ← h, ← q2]
      rfl
theorem anyM_some {g : D → Option Bool} : ∀ {ds : List D} {k : Bool}, anyM g ds = some k → ∃ pb : Nat → Bool, (∀ i d, ds[i]? = some d → g d = some (pb i)) ∧ (List.range ds.length).any pb = k
  | [], k, h => by cases h; exact ⟨fun _ => true, fun i d h => by simp at h, rfl⟩
  | d :: ds, k, h => by
    obtain ⟨k1, h1, h⟩ := Option.bind_eq_some_iff.mp h
    obtain ⟨r, h2, h⟩ := Option.map_eq_some_iff.mp h
    obtain ⟨pb, q1, q2⟩ := anyM_some h2
    refine ⟨fun i => match i with | 0 => k1 | i + 1 => pb i, fun i d' e => ?_, ?_⟩
    · cases i with
      | zero => simp at e; subst e; exact h1
      | succ i => exact q1 i d' (by simpa using e)
    · rw [List.length_cons, List.range_succ_eq_map, List.any_cons, List.any_map, ← h, ← q2]
      rfl
def vAll (fe : Env → D → Option D) (fa : FE) : FE := bnd fa (kQ fe allM)
def vAny (fe : Env → D → Option D) (fa : FE) : FE := bnd fa (kQ fe anyM)
/-- the table has grown -/
theorem tab_sr {P : Addr} (S : SR c O fp H ρ σ) (hP : c.tb P) (T : Tabbed P H H2) : SR c O fp H2 ρ σ ∧ Ext fp O H fp O H2 ∧ Ins H H2 := by
  obtain ⟨T1, T2⟩ := T
  obtain ⟨ps, e, _⟩ := S.tb P hP
  have kp : ∀ a, nT (H a) → H2 a = H a := fun a h => T2 a fun z => by
    obtain ⟨u, q, t⟩ := h
    rw [z, e] at q
    cases q
    cases t
  refine ⟨⟨S.rs.stb (.of (fun a _ h => kp a h) fun a h => .inl h) fun a ha => kp a (S.tr a (S.ow a ha)), S.nd, S.ow, fun b h => by rw [kp b (S.tr b h)]; exact S.tr b h, fun Q hQ => ?_, fun p hp => (S.px p hp).stb (.of (fun a _ h => kp a h) fun a h => .inl h)⟩, ⟨fun b h _ => kp b h, fun b h => ?_, fun b h _ => h, fun b h => .inl h, fun b h => .inl h⟩, kp⟩
  · by_cases z : Q = P
    · rw [z]; exact T1
    · obtain ⟨qs, e1, e2⟩ := S.tb Q hQ
      exact ⟨qs, (T2 Q z).trans e1, e2⟩
  · by_cases z : b = P
    · obtain ⟨qs, e1, _⟩ := T1
      rw [z, e1]; simp
    · rw [T2 b z]; exact h
theorem ok_gen {P : Addr} {scope : Scope} {x : Str} {te : TE} {fin : (Nat → Bool) → Nat → Bool} {qf : (D → Option Bool) → List D → Option Bool} (hP : c.tb P) (hf : FreeOk X scope) (kd : scope.kind = .function) (lx : scope.names.lookup x = some .local)
    (hq : ∀ {g : D → Option Bool} {ds : List D} {k : Bool}, qf g ds = some k → ∃ pb : Nat → Bool, (∀ i d, ds[i]? = some d → g d = some (pb i)) ∧ fin pb ds.length = k)
    (ha : Ok (RV c) c W b fa te) (he : VQ c X scope x elt fe) : Ok (RV c) c W b (bnd fa (kQ fe qf)) (tGen X P scope x elt te fin) := fun O fp H ρ σ Q S h =>
  ha.thn S.tr S .refl (fun _ => .refl) h id fun w ρ1 u H1 O1 fp1 g1 _ S1 E1 _ I1 R1 F1 h1 => by
    unfold kQ at h1
    cases e : vw ρ1 w with
    | none => simp only [e] at h1; exact h1.elim
    | some d =>
      cases d with
      | lst ds =>
        simp only [e] at h1
        cases eq : qf (fun d => match fe ρ1 d with | some (.bl k) => some k | _ => none) ds with
        | none => rw [eq] at h1; exact h1.elim
        | some k =>
          rw [eq] at h1
          obtain ⟨pb, p1, p2⟩ := hq eq
          obtain ⟨l, vs, eu, hl, rs⟩ := R1.vw S1 e
          refine ⟨l, vs, pb, eu, sqL_of hl, S1.tb P hP, fun pins s1 I cenv A' E' i xv u s2 m2 sc ce _ hA hU hx ru hn hm G => ?_, fun H2 T => ?_⟩
          · obtain ⟨ps, eP, _⟩ := S1.tb P hP
            have hi : i < ds.length := by rw [← rs.len]; exact (List.getElem?_eq_some_iff.mp hx).1
            obtain ⟨v', h2, h3⟩ := rs.get (List.getElem?_eq_getElem hi)
            rw [hx] at h2
            cases h2
            have p3 := p1 i _ (List.getElem?_eq_getElem hi)
            cases q : fe ρ1 ds[i] with
            | none => rw [q] at p3; cases p3
            | some dy =>
              cases dy with
              | bl k' =>
                rw [q] at p3
                cases p3
                refine L2.thn (he O1 fp1 H1 ρ1 σ _ xv _ cenv A' E' s2 S1 h3 q (GQ.of (i := i) I ⟨ps, eP⟩ G hf kd lx sc ce hA hU hn hm ru)) fun y s3 ⟨⟨vy, r, pk⟩, k⟩ => ⟨?_, k⟩
                obtain rfl : vy = .bl (pb i) := pk
                exact r
              | _ => rw [q] at p3; cases p3
          · obtain ⟨S2, E2, I2⟩ := tab_sr S1 hP T
            rw [rs.len, p2]
            exact h1 (.bl k) H2 O1 fp1 [] S2 (E1.trans E2 S.tr) (fun q => (I1 q).trans I2) ⟨rfl, rfl⟩ fun _ q => (by cases q)
      | _ => simp only [e] at h1; exact h1.elim
theorem ve_all {cd P : Addr} {x : Str} {px p pos gpos : Pos} {scope : Scope} {k : Nat} (hr : Room k X.A) (hg : Gl X "all") (hm : X.mg "all" = none) (hbl : bootBuiltins "all" = some (.builtin "all")) (TB : TabB X.base X.mg cd P) (hcode : X.env.code = .ref cd) (hP : c.tb P)
    (hf : FreeOk X scope) (S : GenS X.env scope x) (ha : VE c X W b iter fa) (hel : VQ c X scope x elt fe) (hs : ∀ v, genFold iter X.env v = pure v := by intro _; rfl)
    (he : starEach [.GeneratorExp elt [⟨.Name x px, iter, [], 0⟩] scope gpos] X.env = (false, eval (.GeneratorExp elt [⟨.Name x px, iter, [], 0⟩] scope gpos) X.env) :: starEach [] X.env := by rfl) :
    VE c X W b (.Call (.Name "all" p) [.GeneratorExp elt [⟨.Name x px, iter, [], 0⟩] scope gpos] [] pos) (vAll fe fa) := by
  obtain ⟨ta, pa, oa⟩ := ha
  exact ⟨_, pe_allL hr hg hm hbl TB hcode S pa hs he, ok_gen hP hf S.kind S.loc allM_some oa hel⟩
theorem ve_any {cd P : Addr} {x : Str} {px p pos gpos : Pos} {scope : Scope} {k : Nat} (hr : Room k X.A) (hg : Gl X "any") (hm : X.mg "any" = none) (TB : TabB X.base X.mg cd P) (hcode : X.env.code = .ref cd) (hP : c.tb P)
    (hf : FreeOk X scope) (S : GenS X.env scope x) (ha : VE c X W b iter fa) (hel : VQ c X scope x elt fe) (hs : ∀ v, genFold iter X.env v = pure v := by intro _; rfl)
    (he : starEach [.GeneratorExp elt [⟨.Name x px, iter, [], 0⟩] scope gpos] X.env = (false, eval (.GeneratorExp elt [⟨.Name x px, iter, [], 0⟩] scope gpos) X.env) :: starEach [] X.env := by rfl) :
    VE c X W b (.Call (.Name "any" p) [.GeneratorExp elt [⟨.Name x px, iter, [], 0⟩] scope gpos] [] pos) (vAny fe fa) := by
  obtain ⟨ta, pa, oa⟩ := ha
  exact ⟨_, pe_anyL hr hg hm TB hcode S pa hs he, ok_gen hP hf S.kind S.loc anyM_some oa hel⟩
end
end Vl

namespace Vl
open PySem PySem.Spec PyProof.Rows L2
section
variable {c : Vc} {X : Cx} {W : WX} {b : Bool} {O O1 O2 : Addr → Prop} {fp fp1 fp2 : List Addr} {H H1 H2 : Hp} {ρ ρ1 ρ2 : Env} {σ : L2.St} {k : Nat}
/-! ### lists of values -/
theorem RDs.app : ∀ {ds es : List D} {vs us : List V}, RDs c O H ds vs → RDs c O H es us → RDs c O H (ds ++ es) (vs ++ us)
  | [], _, _, _, h, q => by rw [show _ = [] from h]; exact q
  | _ :: _, _, _, _, ⟨v, r, e, h, t⟩, q => ⟨v, r ++ _, by rw [e]; rfl, h, RDs.app t q⟩
theorem RDs.drp : ∀ {ds : List D} {vs : List V} (n : Nat), RDs c O H ds vs → RDs c O H (ds.drop n) (vs.drop n)
  | _, _, 0, h => h
  | [], _, n + 1, h => by rw [show _ = [] from h]; exact (rfl : ([] : List V) = [])
  | _ :: _, _, n + 1, ⟨v, r, e, h, t⟩ => by rw [e]; exact RDs.drp n t
theorem RDs.tak : ∀ {ds : List D} {vs : List V} (n : Nat), RDs c O H ds vs → RDs c O H (ds.take n) (vs.take n)
  | _, _, 0, h => by rw [List.take_zero, List.take_zero]; exact (rfl : ([] : List V) = [])
  | [], _, n + 1, h => by rw [show _ = [] from h]; exact (rfl : ([] : List V) = [])
  | _ :: _, _, n + 1, ⟨v, r, e, h, t⟩ => by rw [e]; exact ⟨v, r.take n, rfl, h, RDs.tak n t⟩
theorem RDs.upd' : ∀ {ds : List D} {vs : List V} {d : D} {v : V} (n : Nat), RDs c O H ds vs → RD c O H d v → RDs c O H (ds.set n d) (vs.set n v)
  | [], _, _, _, n, h, _ => by rw [show _ = [] from h]; exact (rfl : ([] : List V) = [])
  | _ :: _, _, _, _, 0, ⟨v, r, e, h, t⟩, q => by rw [e]; exact ⟨_, r, rfl, q, t⟩
  | _ :: _, _, _, _, n + 1, ⟨v, r, e, h, t⟩, q => by rw [e]; exact ⟨v, _, rfl, h, RDs.upd' n t q⟩
theorem RDs.atI {ds : List D} {vs : List V} {d : D} {i : Int} (r : RDs c O H ds vs) (e : L2.atI ds i = some d) : ∃ v, L2.atI vs i = some v ∧ RD c O H d v := by
  unfold L2.atI at e ⊢
  rw [r.len]
  obtain ⟨j, h1, h2⟩ := Option.bind_eq_some_iff.mp e
  obtain ⟨v, h3, h4⟩ := r.get h2
  exact ⟨v, by rw [h1]; exact h3, h4⟩
/-! ### + - * // % ** and the bits -/
def big64 (i j : Int) : Bool := decide (j.natAbs ≤ 18446744073709551615) || decide (i.natAbs ≤ 18446744073709551615)
theorem big64_ok {i j : Int} (h : big64 i j = true) : CMul i j := by
  unfold big64 at h
  rw [Bool.or_eq_true] at h
  rcases h with h | h
  · have h := of_decide_eq_true h
    exact .inr ⟨by omega, by omega⟩
  · have h := of_decide_eq_true h
    exact .inl ⟨by omega, by omega⟩
def iOp (p : Int → Int → Bool) (g : Int → Int → Int) : D → D → Option Val
  | .int i, .int j => if p i j then some (.fr (.int (g i j))) else none
  | _, _ => none
def iBp (g : Int → Int → Bool) : D → D → Option Val
  | .int i, .int j => some (.fr (.bl (g i j)))
  | _, _ => none
theorem iOp_some {p : Int → Int → Bool} {g : Int → Int → Int} {x y : D} {w : Val} (h : iOp p g x y = some w) : ∃ i j, x = .int i ∧ y = .int j ∧ p i j = true ∧ w = .fr (.int (g i j)) := by
  unfold iOp at h
  split at h
  · split at h
    · cases h; exact ⟨_, _, rfl, rfl, by assumption, rfl⟩
    · cases h
  · cases h
theorem iBp_some {g : Int → Int → Bool} {x y : D} {w : Val} (h : iBp g x y = some w) : ∃ i j, x = .int i ∧ y = .int j ∧ w = .fr (.bl (g i j)) := by
  unfold iBp at h
  split at h
  · cases h; exact ⟨_, _, rfl, rfl, rfl⟩
  · cases h
theorem opS_i {C : Int → Int → Prop} {p : Int → Int → Bool} {g : Int → Int → Int} (hp : ∀ i j, p i j = true → C i j) : OpS c (rI C fun i j => .int (g i j)) (iOp p g) := fun O H x y dx dy w Q tr px py e k => by
  obtain ⟨i, j, rfl, rfl, h1, rfl⟩ := iOp_some e
  exact ⟨i, j, px, py, hp i j h1, k _ H [] (.same rfl)⟩
theorem opS_b {g : Int → Int → Bool} : OpS c (rI0 fun i j => .bl (g i j)) (iBp g) := fun O H x y dx dy w Q tr px py e k => by
  obtain ⟨i, j, rfl, rfl, rfl⟩ := iBp_some e
  exact ⟨i, j, px, py, k _ H [] (.same rfl)⟩
theorem opS_or {r r' : R2} {g g' : D → D → Option Val} (h : OpS c r g) (h' : OpS c r' g') : OpS c (fun x y H Q => r x y H Q ∨ r' x y H Q) (fun x y => (g x y).or (g' x y)) := fun O H x y dx dy w Q tr px py e k => by
  cases q : g dx dy with
  | some w' =>
    have e : (g dx dy).or (g' dx dy) = some w := e
    rw [q] at e
    have e : some w' = some w := e
    exact .inl (h O H x y dx dy w Q tr px py (q.trans e) k)
  | none =>
    have e : (g dx dy).or (g' dx dy) = some w := e
    rw [q] at e
    exact .inr (h' O H x y dx dy w Q tr px py e k)
def gSub : D → D → Option Val := iOp (fun _ _ => true) fun i j => i - j
def gMulI : D → D → Option Val := iOp big64 fun i j => i * j
def gFdiv : D → D → Option Val := iOp (fun _ j => decide (j ≠ 0) && decide (j.natAbs < 1073741824)) fun i j => i.fdiv j
def gMod : D → D → Option Val := iOp (fun _ j => decide (j ≠ 0)) fun i j => i.fmod j
def gPow : D → D → Option Val := iOp (fun i j => decide (0 ≤ j) && decide (j ≤ 1000) && decide (i.natAbs < 65536)) fun i j => i ^ j.toNat
theorem s_fdiv : OpS c (rI CDivN fun i j => .int (i.fdiv j)) gFdiv := opS_i fun i j h => by
  rw [Bool.and_eq_true] at h
  exact ⟨of_decide_eq_true h.1, of_decide_eq_true h.2⟩
theorem s_mod : OpS c (rI (fun _ j => j ≠ 0) fun i j => .int (i.fmod j)) gMod := opS_i fun i j h => of_decide_eq_true h
theorem s_pow : OpS c (rI CPow fun i j => .int (i ^ j.toNat)) gPow := opS_i fun i j h => by
  rw [Bool.and_eq_true, Bool.and_eq_true] at h
  have h1 := of_decide_eq_true h.1.1
  have h2 := of_decide_eq_true h.1.2
  have h3 := of_decide_eq_true h.2
  exact ⟨h1, by omega, by omega⟩
theorem s_mulI : OpS c (rI CMul fun i j => .int (i * j)) gMulI := opS_i fun i j h => big64_ok h
theorem s_and : OpS c (rI0 fun i j => .int (Builtin.bitAnd i j)) (iOp (fun _ _ => true) Builtin.bitAnd) := fun O H x y dx dy w Q tr px py e k => by
  obtain ⟨i, j, rfl, rfl, h1, rfl⟩ := iOp_some e
  exact ⟨i, j, px, py, k _ H [] (.same rfl)⟩
def rSubI : R2 := rI0 fun i j => .int (i - j)
theorem s_sub : OpS c rSubI gSub := fun O H x y dx dy w Q tr px py e k => by
  obtain ⟨i, j, rfl, rfl, h1, rfl⟩ := iOp_some e
  exact ⟨i, j, px, py, k _ H [] (.same rfl)⟩
/-- x + y -/
def gAdd : D → D → Option Val
  | .int i, .int j => some (.fr (.int (i + j)))
  | .str x, .str y => if szB (x.length + y.length) then some (.fr (.str (x ++ y))) else none
  | .lst xs, .lst ys => if szB (xs.length + ys.length) then some (.nw (.lst (xs ++ ys))) else none
  | .tup xs, .tup ys => if xs.isEmpty then none else if szB (xs.length + ys.length) then some (.fr (.tup (xs ++ ys))) else none
  | _, _ => none
def rAddG (K : PySem.W.Frag) : R2 := fun x y H Q => (rI0 (fun i j => V.int (i + j))) x y H Q ∨ (∃ i j, x = .str i ∧ y = .str j ∧ i.length + j.length ≤ sizeLine ∧ Q (.str (i ++ j)) H) ∨ rCat x y H Q ∨ rCatT K x y H Q
theorem op_addG : OpR X (binaryOp .Add) (rAddG X.K) := op_add.or (op_add_str.or (op_cat.or op_catT))
theorem s_add : OpS c (rAddG c.K) gAdd := fun O H x y dx dy w Q tr px py e k => by
  unfold gAdd at e
  split at e
  · cases e; exact .inl ⟨_, _, px, py, k _ H [] (.same rfl)⟩
  · split at e
    · rename_i h; cases e; exact .inr (.inl ⟨_, _, px, py, szB_ok h, k _ H [] (.same rfl)⟩)
    · cases e
  · split at e
    · rename_i h
      cases e
      obtain ⟨a, vs, ea, ha, ra⟩ := px
      obtain ⟨b, us, eb, hb, rb⟩ := py
      exact .inr (.inr (.inl ⟨a, b, vs, us, ea, eb, ha, hb, by rw [ra.len, rb.len]; exact szB_ok h, fun p hp => k _ _ _ (.lst hp (ra.app rb))⟩))
    · cases e
  · rename_i xs ys
    split at e
    · cases e
    · rename_i hx
      split at e
      · rename_i h
        cases e
        obtain ⟨a, vs, ea, ⟨ha, oa⟩, ra⟩ := px
        obtain ⟨b, us, eb, ⟨hb, ob⟩, rb⟩ := py
        refine .inr (.inr (.inr ⟨a, b, vs, us, ea, eb, sqT_of ha, sqT_of hb, fun q => hx ?_, by rw [ra.len, rb.len]; exact szB_ok h, fun q => ?_, fun q p hp => k _ _ _ (.tup hp tr (ra.app rb))⟩))
        · rw [← ra.emp, q]; rfl
        · have e2 : ys = [] := by
            cases ys with
            | nil => rfl
            | cons d ds =>
              obtain ⟨v, r, e3, _⟩ := rb
              rw [q] at e3; cases e3
          subst e2
          rw [List.append_nil] at k
          exact k _ H [] (.same ⟨a, vs, rfl, ⟨ha, oa⟩, ra⟩)
      · cases e
  · cases e
/-- list * int, int * int -/
def gMul : D → D → Option Val := fun x y => (gMulI x y).or (match x, y with
  | .lst xs, .int j => if small62 j && szB (xs.length * j.toNat) then some (.nw (.lst (List.replicate j.toNat xs).flatten)) else none
  | _, _ => none)
theorem RDs.rep {ds : List D} {vs : List V} (h : RDs c O H ds vs) : ∀ n : Nat, RDs c O H (List.replicate n ds).flatten (List.replicate n vs).flatten
  | 0 => (rfl : ([] : List V) = [])
  | n + 1 => by rw [List.replicate_succ, List.replicate_succ, List.flatten_cons, List.flatten_cons]; exact h.app (RDs.rep h n)
def rMulG : R2 := fun x y H Q => (rI CMul fun i j => V.int (i * j)) x y H Q ∨ rRep x y H Q
theorem op_mulG : OpR X (binaryOp .Mult) rMulG := op_mul.or op_rep
theorem s_mul : OpS c rMulG gMul := opS_or s_mulI fun O H x y dx dy w Q tr px py e k => by
  split at e
  · split at e
    · rename_i h
      cases e
      rw [Bool.and_eq_true] at h
      obtain ⟨a, vs, ea, ha, ra⟩ := px
      have hj := small62_ok h.1
      exact ⟨a, _, vs, ea, py, ha, by omega, by omega, by rw [ra.len]; exact szB_ok h.2, fun p hp => k _ _ _ (.lst hp (ra.rep _))⟩
    · cases e
  · cases e

/-! ### == and != of data -/
mutual
def D.py : D → Option PyData
  | .non => some .none | .bl b => some (.bool b) | .int i => some (.int i) | .str x => some (.str x)
  | .lst xs => (D.pys xs).map .list | .klst xs => (D.pys xs).map .list
  | .tup xs => (D.pys xs).map .tuple | .ktup xs => (D.pys xs).map .tuple
  | _ => none
def D.pys : List D → Option (List PyData)
  | [] => some []
  | d :: ds => (D.py d).bind fun p => (D.pys ds).map fun ps => p :: ps
end
mutual
theorem D.py_ok : ∀ {d : D} {v : V} {p : PyData}, RD c O H d v → d.py = some p → Dp c.K H v p
  | .non, _, _, h, e => by cases e; rw [show _ = V.non from h]; exact .non
  | .bl _, _, _, h, e => by cases e; rw [show _ = V.bl _ from h]; exact .bl _
  | .int _, _, _, h, e => by cases e; rw [show _ = V.int _ from h]; exact .int _
  | .str _, _, _, h, e => by cases e; rw [show _ = V.str _ from h]; exact .str _
  | .con _, _, _, _, e => by simp [D.py] at e
  | .ty _, _, _, _, e => by simp [D.py] at e
  | .dK _, _, _, _, e => by simp [D.py] at e
  | .dT _, _, _, _, e => by simp [D.py] at e
  | .obj _ _, _, _, _, e => by simp [D.py] at e
  | .hole, _, _, _, e => by simp [D.py] at e
  | .lst xs, _, _, ⟨a, vs, ev, h, r⟩, e => by
    obtain ⟨ps, e1, e2⟩ := Option.map_eq_some_iff.mp e
    subst e2 ev
    exact .lst (sqL_of h.1) (D.pys_ok r e1)
  | .klst xs, _, _, ⟨a, vs, ev, h, r⟩, e => by
    obtain ⟨ps, e1, e2⟩ := Option.map_eq_some_iff.mp e
    subst e2 ev
    exact .lst (sqK_of h) (D.pys_ok r e1)
  | .tup xs, _, _, ⟨a, vs, ev, h, r⟩, e => by
    obtain ⟨ps, e1, e2⟩ := Option.map_eq_some_iff.mp e
    subst e2 ev
    exact .tup (sqT_of h.1) (D.pys_ok r e1)
  | .ktup xs, _, _, ⟨a, vs, ev, h, r⟩, e => by
    obtain ⟨ps, e1, e2⟩ := Option.map_eq_some_iff.mp e
    subst e2 ev
    exact .tup (.inr h) (D.pys_ok r e1)
theorem D.pys_ok : ∀ {ds : List D} {vs : List V} {ps : List PyData}, RDs c O H ds vs → D.pys ds = some ps → DpAll c.K H vs ps
  | [], _, _, h, e => by cases e; rw [show _ = [] from h]; exact .nil
  | d :: ds, _, _, ⟨v, r, ev, h, t⟩, e => by
    obtain ⟨p, e1, e⟩ := Option.bind_eq_some_iff.mp e
    obtain ⟨ps, e2, e3⟩ := Option.map_eq_some_iff.mp e
    subst e3 ev
    exact .cons (D.py_ok h e1) (D.pys_ok t e2)
end
theorem Pk.py {d : D} {v : V} {p : PyData} (h : Pk c O H d v) (e : d.py = some p) : Dp c.K H v p := by
  cases d with
  | lst xs =>
    obtain ⟨a, vs, ev, h, r⟩ := h
    obtain ⟨ps, e1, e2⟩ := Option.map_eq_some_iff.mp e
    subst e2 ev
    exact .lst (sqL_of h) (D.pys_ok r e1)
  | non => exact D.py_ok h e
  | bl _ => exact D.py_ok h e
  | int _ => exact D.py_ok h e
  | str _ => exact D.py_ok h e
  | tup _ => exact D.py_ok h e
  | klst _ => exact D.py_ok h e
  | ktup _ => exact D.py_ok h e
  | _ => simp [D.py] at e
def eqD (x y : D) : Option Bool := x.py.bind fun p => y.py.bind fun q => if SeqAt.shaped p && SeqAt.shaped q then some (PyData.eqv p q) else none
def gEq : D → D → Option Val := fun x y => (eqD x y).map fun k => .fr (.bl k)
def gNe : D → D → Option Val := fun x y => (eqD x y).map fun k => .fr (.bl (!k))
theorem eqD_some {x y : D} {k : Bool} (h : eqD x y = some k) : ∃ p q, x.py = some p ∧ y.py = some q ∧ SeqAt.shaped p = true ∧ SeqAt.shaped q = true ∧ k = PyData.eqv p q := by
  obtain ⟨p, h1, h⟩ := Option.bind_eq_some_iff.mp h
  obtain ⟨q, h2, h⟩ := Option.bind_eq_some_iff.mp h
  split at h
  · rename_i hs; cases h; rw [Bool.and_eq_true] at hs; exact ⟨p, q, h1, h2, hs.1, hs.2, rfl⟩
  · cases h
theorem s_eq : OpS c (rEqD c.K) gEq := fun O H x y dx dy w Q tr px py e k => by
  obtain ⟨r, e1, e2⟩ := Option.map_eq_some_iff.mp e
  subst e2
  obtain ⟨p, q, h1, h2, h3, h4, rfl⟩ := eqD_some e1
  exact ⟨p, q, px.py h1, py.py h2, h3, h4, k _ H [] (.same rfl)⟩
theorem s_ne : OpS c (rNeD c.K) gNe := fun O H x y dx dy w Q tr px py e k => by
  obtain ⟨r, e1, e2⟩ := Option.map_eq_some_iff.mp e
  subst e2
  obtain ⟨p, q, h1, h2, h3, h4, rfl⟩ := eqD_some e1
  exact ⟨p, q, px.py h1, py.py h2, h3, h4, k _ H [] (.same rfl)⟩
/-- x is None, x is not None -/
def isNonD : D → Option Bool
  | .non => some true
  | .hole => none
  | _ => some false
def gIsN (neg : Bool) : D → D → Option Val := fun x y => match y with
  | .non => (isNonD x).map fun k => .fr (.bl (if neg then !k else k))
  | _ => none
theorem non_iff {x : D} {v : V} {k : Bool} (h : Pk c O H x v) (e : isNonD x = some k) : decide (v = V.non) = k := by
  cases x with
  | non => cases e; rw [show v = .non from h]; rfl
  | bl _ => cases e; rw [show v = .bl _ from h]; rfl
  | int _ => cases e; rw [show v = .int _ from h]; rfl
  | str _ => cases e; rw [show v = .str _ from h]; rfl
  | con _ => cases e; rw [show v = .ref _ from h]; rfl
  | ty _ => cases e; rw [show v = .ty _ from h]; rfl
  | lst _ => cases e; obtain ⟨a, vs, rfl, _⟩ := h; rfl
  | tup _ => cases e; obtain ⟨a, vs, rfl, _⟩ := h; rfl
  | klst _ => cases e; obtain ⟨a, vs, rfl, _⟩ := h; rfl
  | ktup _ => cases e; obtain ⟨a, vs, rfl, _⟩ := h; rfl
  | dK _ => cases e; obtain ⟨a, vs, rfl, _⟩ := h; rfl
  | dT _ => cases e; obtain ⟨a, vs, rfl, _⟩ := h; rfl
  | obj _ _ => cases e; obtain ⟨a, dx, vs, rfl, _⟩ := h; rfl
  | hole => cases e
theorem s_isN : OpS c (fun x y H Q => y = .non ∧ Q (.bl (decide (x = .non))) H) (gIsN false) := fun O H x y dx dy w Q tr px py e k => by
  unfold gIsN at e
  split at e
  · obtain ⟨b, e1, e2⟩ := Option.map_eq_some_iff.mp e
    subst e2
    refine ⟨py, ?_⟩
    rw [non_iff px e1]
    exact k _ H [] (.same rfl)
  · cases e
theorem s_notN : OpS c (fun x y H Q => y = .non ∧ Q (.bl (!decide (x = .non))) H) (gIsN true) := fun O H x y dx dy w Q tr px py e k => by
  unfold gIsN at e
  split at e
  · obtain ⟨b, e1, e2⟩ := Option.map_eq_some_iff.mp e
    subst e2
    refine ⟨py, ?_⟩
    rw [non_iff px e1]
    exact k _ H [] (.same rfl)
  · cases e

/-! ### a[i] -/
def gIx : D → D → Option Val := fun x y => match x, y with
  | .lst xs, .int i => (L2.atI xs i).map .fr
  | .tup xs, .int i => (L2.atI xs i).map .fr
  | .klst xs, .int i => (L2.atI xs i).map .fr
  | .ktup xs, .int i => (L2.atI xs i).map .fr
  | .str z, .int i => if szB z.length then (L2.atI z.cps.toList i).map fun k => .fr (.str ⟨#[k]⟩) else none
  | _, _ => none
theorem s_ix : OpS c (rIx c.K) gIx := fun O H x y dx dy w Q tr px py e k => by
  unfold gIx at e
  split at e
  · obtain ⟨d, e1, e2⟩ := Option.map_eq_some_iff.mp e
    subst e2
    obtain ⟨a, vs, ea, ha, ra⟩ := px
    obtain ⟨v, h1, h2⟩ := ra.atI e1
    exact .inl ⟨a, vs, _, v, ea, py, sqL_of ha, h1, k _ H [] (.same h2)⟩
  · obtain ⟨d, e1, e2⟩ := Option.map_eq_some_iff.mp e
    subst e2
    obtain ⟨a, vs, ea, ha, ra⟩ := px
    obtain ⟨v, h1, h2⟩ := ra.atI e1
    exact .inr (.inl ⟨a, vs, _, v, ea, py, sqT_of ha.1, h1, k _ H [] (.same h2)⟩)
  · obtain ⟨d, e1, e2⟩ := Option.map_eq_some_iff.mp e
    subst e2
    obtain ⟨a, vs, ea, ha, ra⟩ := px
    obtain ⟨v, h1, h2⟩ := ra.atI e1
    exact .inl ⟨a, vs, _, v, ea, py, sqK_of ha, h1, k _ H [] (.same h2)⟩
  · obtain ⟨d, e1, e2⟩ := Option.map_eq_some_iff.mp e
    subst e2
    obtain ⟨a, vs, ea, ha, ra⟩ := px
    obtain ⟨v, h1, h2⟩ := ra.atI e1
    exact .inr (.inl ⟨a, vs, _, v, ea, py, .inr ha, h1, k _ H [] (.same h2)⟩)
  · split at e
    · rename_i hz
      obtain ⟨d, e1, e2⟩ := Option.map_eq_some_iff.mp e
      subst e2
      exact .inr (.inr ⟨_, _, d, px, py, szB_ok hz, e1, k _ H [] (.same rfl)⟩)
    · cases e
  · cases e

/-! ### builtins -/
def gLen : List D → Option Val
  | [.lst xs] => some (.fr (.int xs.length)) | [.tup xs] => some (.fr (.int xs.length)) | [.klst xs] => some (.fr (.int xs.length)) | [.ktup xs] => some (.fr (.int xs.length))
  | [.str x] => if szB x.length then some (.fr (.int x.length)) else none
  | _ => none
theorem pks1 {d : D} {vs : List V} (h : Pks c O H [d] vs) : ∃ v, vs = [v] ∧ Pk c O H d v := by
  obtain ⟨v, r, e, h1, h2⟩ := h
  rw [show r = [] from h2] at e
  exact ⟨v, e, h1⟩
theorem pks2 {d d' : D} {vs : List V} (h : Pks c O H [d, d'] vs) : ∃ v v', vs = [v, v'] ∧ Pk c O H d v ∧ Pk c O H d' v' := by
  obtain ⟨v, r, e, h1, h2⟩ := h
  obtain ⟨v', e2, h3⟩ := pks1 h2
  exact ⟨v, v', by rw [e, e2], h1, h3⟩
theorem s_len : CaS c (fun xs H Q => ∃ x n, xs = [x] ∧ LenV c.K x H n ∧ Q (.int n) H) gLen := fun O H vs ds w Q tr p e k => by
  unfold gLen at e
  split at e
  · cases e
    obtain ⟨v, rfl, a, us, rfl, ha, ra⟩ := pks1 p
    exact ⟨_, _, rfl, .inl ⟨us, sqL_of ha, rfl⟩, by rw [ra.len]; exact k _ H [] (.same rfl)⟩
  · cases e
    obtain ⟨v, rfl, a, us, rfl, ha, ra⟩ := pks1 p
    exact ⟨_, _, rfl, .inr ⟨us, sqT_of ha.1, rfl⟩, by rw [ra.len]; exact k _ H [] (.same rfl)⟩
  · cases e
    obtain ⟨v, rfl, a, us, rfl, ha, ra⟩ := pks1 p
    exact ⟨_, _, rfl, .inl ⟨us, sqK_of ha, rfl⟩, by rw [ra.len]; exact k _ H [] (.same rfl)⟩
  · cases e
    obtain ⟨v, rfl, a, us, rfl, ha, ra⟩ := pks1 p
    exact ⟨_, _, rfl, .inr ⟨us, .inr ha, rfl⟩, by rw [ra.len]; exact k _ H [] (.same rfl)⟩
  · split at e
    · rename_i hz
      cases e
      obtain ⟨v, rfl, h⟩ := pks1 p
      obtain rfl : v = .str _ := h
      exact ⟨_, _, rfl, ⟨szB_ok hz, rfl⟩, k _ H [] (.same rfl)⟩
    · cases e
  · cases e
def gInt : List D → Option Val
  | [.int i] => some (.fr (.int i)) | [.bl b] => some (.fr (.int (if b then 1 else 0))) | _ => none
theorem s_int : CaS c (fun xs H Q => (∃ i, xs = [.int i] ∧ Q (.int i) H) ∨ ∃ k, xs = [.bl k] ∧ Q (.int (if k then 1 else 0)) H) gInt := fun O H vs ds w Q tr p e k => by
  unfold gInt at e
  split at e
  · cases e
    obtain ⟨v, rfl, h⟩ := pks1 p
    obtain rfl : v = .int _ := h
    exact .inl ⟨_, rfl, k _ H [] (.same rfl)⟩
  · cases e
    obtain ⟨v, rfl, h⟩ := pks1 p
    obtain rfl : v = .bl _ := h
    exact .inr ⟨_, rfl, k _ H [] (.same rfl)⟩
  · cases e
def gMin : List D → Option Val
  | [.int i, .int j] => some (.fr (.int (if j < i then j else i))) | _ => none
def gMax : List D → Option Val
  | [.int i, .int j] => some (.fr (.int (if j > i then j else i))) | _ => none
theorem s_min : CaS c (fun xs H Q => ∃ i j, xs = [.int i, .int j] ∧ Q (.int (if j < i then j else i)) H) gMin := fun O H vs ds w Q tr p e k => by
  unfold gMin at e
  split at e
  · cases e
    obtain ⟨v, v', rfl, h, h'⟩ := pks2 p
    obtain rfl : v = .int _ := h
    obtain rfl : v' = .int _ := h'
    exact ⟨_, _, rfl, k _ H [] (.same rfl)⟩
  · cases e
theorem s_max : CaS c (fun xs H Q => ∃ i j, xs = [.int i, .int j] ∧ Q (.int (if j > i then j else i)) H) gMax := fun O H vs ds w Q tr p e k => by
  unfold gMax at e
  split at e
  · cases e
    obtain ⟨v, v', rfl, h, h'⟩ := pks2 p
    obtain rfl : v = .int _ := h
    obtain rfl : v' = .int _ := h'
    exact ⟨_, _, rfl, k _ H [] (.same rfl)⟩
  · cases e
def gList : List D → Option Val
  | [.lst xs] => some (.nw (.lst xs)) | [.tup xs] => some (.nw (.lst xs)) | [.klst xs] => some (.nw (.lst xs)) | [.ktup xs] => some (.nw (.lst xs)) | _ => none
theorem s_list : CaS c (fun xs H Q => ∃ p ys, xs = [.ref p] ∧ (SqL c.K H p ys ∨ SqT c.K H p ys) ∧ ∀ l, H l = none → Q (.ref l) (upd H l (.lst ys))) gList := fun O H vs ds w Q tr p e k => by
  unfold gList at e
  split at e
  · cases e
    obtain ⟨v, rfl, a, us, rfl, ha, ra⟩ := pks1 p
    exact ⟨a, us, rfl, .inl (sqL_of ha), fun l hl => k _ _ _ (.lst hl ra)⟩
  · cases e
    obtain ⟨v, rfl, a, us, rfl, ha, ra⟩ := pks1 p
    exact ⟨a, us, rfl, .inr (sqT_of ha.1), fun l hl => k _ _ _ (.lst hl ra)⟩
  · cases e
    obtain ⟨v, rfl, a, us, rfl, ha, ra⟩ := pks1 p
    exact ⟨a, us, rfl, .inl (sqK_of ha), fun l hl => k _ _ _ (.lst hl ra)⟩
  · cases e
    obtain ⟨v, rfl, a, us, rfl, ha, ra⟩ := pks1 p
    exact ⟨a, us, rfl, .inr (.inr ha), fun l hl => k _ _ _ (.lst hl ra)⟩
  · cases e
def gTuple : List D → Option Val
  | [.lst xs] => some (.fr (.tup xs)) | [.klst xs] => some (.fr (.tup xs)) | [.tup xs] => some (.fr (.tup xs)) | [.ktup xs] => some (.fr (.ktup xs)) | _ => none
theorem s_tuple : CaS c (fun xs H Q => ∃ p ys, xs = [.ref p] ∧ ((SqL c.K H p ys ∧ ∀ l, H l = none → Q (.ref l) (upd H l (.tup ys))) ∨ (SqT c.K H p ys ∧ Q (.ref p) H))) gTuple := fun O H vs ds w Q tr p e k => by
  unfold gTuple at e
  split at e
  · cases e
    obtain ⟨v, rfl, a, us, rfl, ha, ra⟩ := pks1 p
    exact ⟨a, us, rfl, .inl ⟨sqL_of ha, fun l hl => k _ _ _ (.tup hl tr ra)⟩⟩
  · cases e
    obtain ⟨v, rfl, a, us, rfl, ha, ra⟩ := pks1 p
    exact ⟨a, us, rfl, .inl ⟨sqK_of ha, fun l hl => k _ _ _ (.tup hl tr ra)⟩⟩
  · cases e
    obtain ⟨v, rfl, a, us, rfl, ha, ra⟩ := pks1 p
    exact ⟨a, us, rfl, .inr ⟨sqT_of ha.1, k _ H [] (.same ⟨a, us, rfl, ha, ra⟩)⟩⟩
  · cases e
    obtain ⟨v, rfl, a, us, rfl, ha, ra⟩ := pks1 p
    exact ⟨a, us, rfl, .inr ⟨.inr ha, k _ H [] (.same ⟨a, us, rfl, ha, ra⟩)⟩⟩
  · cases e
/-! ### slices -/
def cutD (xs : List D) (lo hi : Option Int) : List D := (xs.drop (HT.sIx xs.length 0 lo)).take (HT.sIx xs.length xs.length hi - HT.sIx xs.length 0 lo)
theorem RDs.cut {ds : List D} {vs : List V} (lo hi : Option Int) (r : RDs c O H ds vs) : RDs c O H (cutD ds lo hi) (cutV vs lo hi) := by
  unfold cutD cutV
  rw [r.len]
  exact (r.drp _).tak _
end
end Vl

namespace Vl
open PySem PySem.Spec PyProof.Rows L2
section
variable {c : Vc} {X : Cx} {W : WX} {b : Bool} {bor : List Nat} {O O1 O2 O' : Addr → Prop} {fp fp1 fp2 fp' : List Addr} {H H1 H2 H' : Hp} {ρ ρ1 ρ2 : Env} {σ σ1 : L2.St} {k : Nat} {α β : Type}
variable {a e e' o : Expr} {es : List Expr} {fa fb fc : FE} {pos p2 apos cpos : Pos} {ta tb : TE} {fs : FG (List Val)} {D1 : Ends}
/-! ### a chain of two comparisons -/
theorem ve_chain {op op' : CmpOp} {r r' : R2} {g g' : D → D → Option Val} (ho : OpR X (compareOp op) r) (ho' : OpR X (compareOp op') r') (hr : OpS c r g) (hr' : OpS c r' g') (ha : VE c X W b a fa) (hb : VE c X W b e fb) (hc : VE c X W b e' fc)
    (sg : ∀ dx dy w, g dx dy = some w → ∃ k, w = .fr (.bl k)) (hm : lastMarks [op, op'] [e, e'] = false := by with_unfolding_all rfl) : VE c X W b (.Compare a [op, op'] [e, e'] pos) (vCh g g' fa fb fc) := by
  obtain ⟨ta, pa, oa⟩ := ha
  obtain ⟨tb, pb, ob⟩ := hb
  obtain ⟨tc, pc, oc⟩ := hc
  exact ⟨_, pe_chain ho ho' pa pb pc hm, ok_ch hr hr' oa ob oc sg⟩
theorem vt_chain {op op' : CmpOp} {r r' : R2} {g g' : D → D → Option Val} (ho : OpR X (compareOp op) r) (ho' : OpR X (compareOp op') r') (hr : OpS c r g) (hr' : OpS c r' g') (ha : VE c X W b a fa) (hb : VE c X W b e fb) (hc : VE c X W b e' fc)
    (sg : ∀ dx dy w, g dx dy = some w → ∃ k, w = .fr (.bl k)) (hm : lastMarks [op, op'] [e, e'] = false := by with_unfolding_all rfl) : VT c X W b (.Compare a [op, op'] [e, e'] pos) (bnd (vCh g g' fa fb fc) asB) := by
  obtain ⟨ta, pa, oa⟩ := ha
  obtain ⟨tb, pb, ob⟩ := hb
  obtain ⟨tc, pc, oc⟩ := hc
  exact ⟨_, pt_chain ho ho' pa pb pc hm, fun O fp H ρ σ Q S h => (ok_ch hr hr' oa ob oc sg).thn S.tr S .refl (fun _ => .refl) h id fun x ρ1 u H1 O1 fp1 g1 _ S1 E1 _ I1 R1 F1 h1 => Post.asB h1 S1 E1 I1 R1⟩
theorem iBp_bl {g : Int → Int → Bool} : ∀ dx dy w, iBp g dx dy = some w → ∃ k, w = .fr (.bl k) := fun dx dy w h => by
  obtain ⟨i, j, _, _, e⟩ := iBp_some h
  exact ⟨_, e⟩
/-! ### a[lo:hi] -/
abbrev FO := FG (Option Int)
def RO : Rl (Option Int) (Option Int) := fun _ _ _ _ _ x y g => x = y ∧ g = []
def VO (c : Vc) (X : Cx) (W : WX) (b : Bool) (e : Option Expr) (f : FO) : Prop := ∃ t : TO, PO X e t ∧ Ok RO c W b f t
theorem vo_none : VO c X W b none (ret none) := ⟨_, po_none, fun O fp H ρ σ Q S h => h none H O fp [] S .refl (fun _ => .refl) ⟨rfl, rfl⟩ fun _ q => (by cases q)⟩
def asI (w : Val) : FO := fun ρ => match w with
  | .fr (.int i) => some (.val (some i) ρ)
  | _ => none
theorem vo_some (ha : VE c X W b a fa) : VO c X W b (some a) (bnd fa asI) := by
  obtain ⟨ta, pa, oa⟩ := ha
  refine ⟨_, po_some pa, fun O fp H ρ σ Q S h => oa.thn S.tr S .refl (fun _ => .refl) h id fun w ρ1 u H1 O1 fp1 g1 _ S1 E1 _ I1 R1 F1 h1 => ?_⟩
  unfold asI at h1
  split at h1
  · exact ⟨_, R1.1, h1 (some _) H1 O1 fp1 [] S1 E1 I1 ⟨rfl, rfl⟩ fun _ q => (by cases q)⟩
  · exact h1.elim
def SlS (c : Vc) (r : V → Option Int → Option Int → Hp → VK → Prop) (g : D → Option Int → Option Int → Option Val) : Prop := ∀ O H x dx lo hi w (Q : VK), (∀ b, O b → nT (H b)) → Pk c O H dx x → g dx lo hi = some w → (∀ u H' gg, PR c O H w u H' gg → Q u H') → r x lo hi H Q
def v3 (g : D → Option Int → Option Int → Option Val) (x : Val) (lo hi : Option Int) : FE := fun ρ => match (vw ρ x).bind fun d => g d lo hi with
  | some w => some (.val w ρ)
  | none => none
def vSl (g : D → Option Int → Option Int → Option Val) (fa : FE) (fl fh : FO) : FE := bnd fa fun x => bnd fl fun lo => bnd fh fun hi => v3 g x lo hi
theorem ve_slice {r : V → Option Int → Option Int → Hp → VK → Prop} {g : D → Option Int → Option Int → Option Val} {lo hi : Option Expr} {fl fh : FO} (hr : SlR X r) (hs : SlS c r g) (ha : VE c X W b a fa) (hl : VO c X W b lo fl) (hh : VO c X W b hi fh) :
    VE c X W b (.Subscript a (.Slice lo hi none p2) pos) (vSl g fa fl fh) := by
  obtain ⟨ta, pa, oa⟩ := ha
  obtain ⟨tl, pl, ol⟩ := hl
  obtain ⟨th, ph, oh⟩ := hh
  refine ⟨_, pe_slice hr pa pl ph, fun O fp H ρ σ Q S h => oa.thn S.tr S .refl (fun _ => .refl) h id fun x ρ1 u H1 O1 fp1 g1 _ S1 E1 _ I1 R1 F1 h1 => ?_⟩
  refine ol.thn S.tr S1 E1 I1 h1 id fun l ρ2 l' H2 O2 fp2 g2 _ S2 E2 E12 I2 R2 F2 h2 => ?_
  refine oh.thn S.tr S2 E2 I2 h2 id fun m ρ3 m' H3 O3 fp3 g3 _ S3 E3 E23 I3 R3 F3 h3 => ?_
  obtain ⟨rfl, _⟩ := R2
  obtain ⟨rfl, _⟩ := R3
  have RR := (R1.per (ρ1 := ρ2) S1 E12).per (ρ1 := ρ3) S2 E23
  unfold v3 at h3
  revert h3
  cases e1 : (vw ρ3 x).bind fun d => g d l m with
  | none => exact fun h => h.elim
  | some w =>
    intro h3
    obtain ⟨d, e2, e3⟩ := Option.bind_eq_some_iff.mp e1
    exact hs O3 H3 u d l m w Q S3.tr (RR.vw S3 e2) e3 fun u' H' gg p => Post.pr h3 S.tr S3 E3 I3 p
def gCutL (dx : D) (lo hi : Option Int) : Option Val := match dx with
  | .lst xs => some (.nw (.lst (cutD xs lo hi)))
  | .klst xs => some (.nw (.lst (cutD xs lo hi)))
  | _ => none
theorem s_cutL : SlS c (rSlL c.K) gCutL := fun O H x dx lo hi w Q tr px e k => by
  unfold gCutL at e
  split at e
  · cases e
    obtain ⟨a, vs, ea, ha, ra⟩ := px
    exact ⟨a, vs, ea, sqL_of ha, fun p hp => k _ _ _ (.lst hp (ra.cut lo hi))⟩
  · cases e
    obtain ⟨a, vs, ea, ha, ra⟩ := px
    exact ⟨a, vs, ea, sqK_of ha, fun p hp => k _ _ _ (.lst hp (ra.cut lo hi))⟩
  · cases e

theorem Pk.less {d : D} {v : V} (h : Pk c O H d v) (hO : ∀ a, O1 a → O a) : Pk c O1 H d v := by
  cases d with
  | lst xs => obtain ⟨a, vs, e, h, r⟩ := h; exact ⟨a, vs, e, h, r.stb (.less hO)⟩
  | dK xs => obtain ⟨a, vs, e, h, r⟩ := h; exact ⟨a, vs, e, h, r.stb (.less hO)⟩
  | dT xs => obtain ⟨a, vs, e, h, r⟩ := h; exact ⟨a, vs, e, h, r.stb (.less hO)⟩
  | obj n fs => obtain ⟨a, dx, vs, e, h, r⟩ := h; exact ⟨a, dx, vs, e, h, r.stb (.less hO)⟩
  | tup xs => exact RD.stb (.less hO) h
  | _ => exact RD.stb (.less hO) h
/-! ### a slot's own thing is changed -/
theorem SR.mut {i : Nat} {t : T} {x : V} (S : SR c O fp H ρ σ) (e : ρ[i]? = some (some t)) (ex : σ[i]? = some (some x)) : ∃ f, RT c O H t x f ∧ f.Nodup ∧ (∀ b ∈ f, O b) ∧
    ∀ H' t', (∀ b, b ∉ f → H' b = H b) → (∀ b ∈ f, nT (H' b)) → RT c O H' t' x f → SR c O fp H' (ρ.set i (some t')) σ ∧ Ext fp O H fp O H' := by
  obtain ⟨v, f, fl, fr, h1, h2, h3, h4, _⟩ := S.rs.get e
  rw [ex] at h1
  obtain rfl : x = v := by simpa using h1
  have nd := S.nd
  rw [h3] at nd
  have dj : ∀ a ∈ fl ++ fr, a ∉ f := by
    simp only [List.nodup_append, List.mem_append] at nd ⊢
    rintro a (ha | ha) hf
    · exact nd.1.2.2 a ha a hf rfl
    · exact nd.2.2 a (.inr hf) a ha rfl
  have nf : f.Nodup := by
    simp only [List.nodup_append] at nd
    exact nd.1.2.1
  have inf : ∀ b ∈ f, b ∈ fp := fun b hb => by rw [h3]; simp [hb]
  have of : ∀ b ∈ f, O b := fun b hb => S.ow b (inf b hb)
  refine ⟨f, h2, nf, of, fun H' t' kp tr R => ?_⟩
  have kpO : ∀ b, ¬ O b → H' b = H b := fun b nb => kp b fun q => nb (of b q)
  have es : σ.set i (some x) = σ := set_same ex
  have q := h4 (O' := O) (H' := H') (.of (fun a n _ => kpO a n) fun a h => .inl h) (fun a ha => kp a (dj a ha)) R
  rw [es] at q
  refine ⟨⟨by rw [h3]; exact q, S.nd, S.ow, fun b hb => ?_, fun P hP => ?_, fun p hp => (S.px p hp).stb (.of (fun a n _ => kpO a n) fun a h => .inl h)⟩, ⟨fun b _ n => kp b fun q => n (inf b q), fun b h => ?_, fun b h _ => h, fun b h => .inl h, fun b h => .inl h⟩⟩
  · by_cases z : b ∈ f
    · exact tr b z
    · rw [kp b z]; exact S.tr b hb
  · obtain ⟨ps, e1, e2⟩ := S.tb P hP
    have z : P ∉ f := fun z => by
      obtain ⟨u, q1, q2⟩ := S.tr P (of P z)
      rw [e1] at q1
      cases q1
      cases q2
    exact ⟨ps, by rw [kp P z]; exact e1, e2⟩
  · by_cases z : b ∈ f
    · exact (tr b z).ne
    · rw [kp b z]; exact h
/-- what a method does to its own receiver -/
def MuS (c : Vc) (r : V → List V → Hp → VK → Prop) (g : T → List D → Option (D × T)) : Prop := ∀ O H x vs t ds w t' f (Q : VK), RT c O H t x f → f.Nodup → (∀ b ∈ f, O b) → RDs c O H ds vs → g t ds = some (w, t') →
  (∀ u H', (∀ b, b ∉ f → H' b = H b) → (∀ b ∈ f, nT (H' b)) → RT c O H' t' x f → RD c O H' w u → Q u H') → r x vs H Q
def kMu (g : T → List D → Option (D × T)) (x : Val) (ws : List Val) : FE := fun ρ => match x with
  | .al i => match ρ[i]?, fzs ws with
    | some (some t), some ds => match g t ds with
      | some (w, t') => some (.val (.fr w) (ρ.set i (some t')))
      | none => none
    | _, _ => none
  | _ => none
def isOwnL (x : Val) (ρ : Env) : Bool := match x with
  | .al i => match ρ[i]? with
    | some (some (.lst _)) => true
    | _ => false
  | _ => false
def vMu (g : T → List D → Option (D × T)) (fo : FE) (fs : FG (List Val)) : FE := bnd fo fun x ρ => if isOwnL x ρ then bnd fs (fun ws => kMu g x ws) ρ else none
theorem isOwnL_ok {x : Val} {u : V} {g : List Addr} (h : isOwnL x ρ = true) (R : RV c O fp H ρ σ x u g) (S : SR c O fp H ρ σ) : ∃ a xs, u = .ref a ∧ H a = some (.lst xs) := by
  unfold isOwnL at h
  split at h
  · split at h
    · rename_i q
      obtain ⟨v, f, fl, fr, h1, h2, _⟩ := S.rs.get q
      rw [R.1] at h1
      cases h1
      obtain ⟨a, vs, e, hl, _⟩ := h2
      exact ⟨a, vs, e, hl⟩
    · cases h
  · cases h
theorem Post.mu {r : V → List V → Hp → VK → Prop} {g : T → List D → Option (D × T)} {Q : VK} {x : Val} {u : V} {g0 g1 : List Addr} {ws : List Val} {us : List V} (hr : MuS c r g) (S0 : ∀ b, O b → nT (H b)) (S : SR c O1 fp1 H1 ρ1 σ) (E : Ext fp O H fp1 O1 H1) (hb : b = false)
    (rx : RV c O1 fp1 H1 ρ1 σ x u g0) (rs : RVs c O1 fp1 H1 ρ1 σ ws us g1) (F1 : Fr g1 fp H) (h : Post (RV c) c W b O fp H σ (kMu g x ws ρ1) Q) : r u us H1 Q := by
  cases x with
  | al i =>
    simp only [kMu] at h
    split at h
    · rename_i t ds et ed
      split at h
      · rename_i w t' eg
        have R := rs.rest (O1 := fun a => O1 a ∧ a ∉ g1) ed (fun a q => q.1) (fun a ha q => q.2 ha)
        have S2 := S.less fun a ha => (rs.own a ha).2
        have E2 := E.less S0 F1
        obtain ⟨f, h1, h2, h3, h4⟩ := S2.mut et rx.1
        refine hr _ H1 u us t ds w t' f Q h1 h2 h3 R eg fun u' H' kp tr rt rd => ?_
        obtain ⟨S3, E3⟩ := h4 H' t' kp tr rt
        exact h u' H' _ fp1 [] S3 (E2.trans E3 S0) (fun q => by rw [hb] at q; cases q) ⟨rd, rfl⟩ fun _ q => (by cases q)
      · exact h.elim
    · exact h.elim
  | _ => exact h.elim
theorem ve_mu {nm : Str} {id : String} {r : V → List V → Hp → VK → Prop} {g : T → List D → Option (D × T)} (slot : Slot "list" nm id) (hty : typeOf (.builtin id) = pure (.type "method_descriptor")) (hm : MtR X id r) (hr : MuS c r g)
    (ho : VE c X W false o fa) (ha : VA c X W false (e :: es) fs)
    (hbase : attributeBase o nm X.env (eval o X.env) = eval o X.env := by rfl)
    (hfew : ((backTo cpos (starEach (e :: es) X.env)).all (fun x => !x.1) && (backToKw cpos (keywordEach [] X.env)).all (fun x => x.1.isSome)
      && decide ((e :: es).length + ([] : List Keyword).length + (if ([] : List Keyword).isEmpty then 0 else 1) < 30)) = true := by rfl)
    (hline : (apos.endLine == cpos.line) = true := by rfl) (hs : starEach (e :: es) X.env = (false, eval e X.env) :: starEach es X.env := by rfl) (hplain : (backTo cpos (starEach es X.env)).any (·.1) = false := by rfl) :
    VE c X W false (.Call (.Attribute o nm apos) (e :: es) [] cpos) (vMu g fa fs) := by
  obtain ⟨ta, pa, oa⟩ := ho
  obtain ⟨ts, ps, os⟩ := ha
  refine ⟨_, pe_bm PySem.F.plainAttrs_list slot hty hm pa ps hbase hfew hline hs hplain, fun O fp H ρ σ Q S h => oa.thn S.tr S .refl (fun _ => .refl) h (fun q => q) fun x ρ1 u H1 O1 fp1 g1 _ S1 E1 _ I1 R1 F1 h1 => ?_⟩
  by_cases hi : isOwnL x ρ1 = true
  · simp only [if_pos hi] at h1
    obtain ⟨p, xs, eu, hp⟩ := isOwnL_ok hi R1 S1
    subst eu
    refine ⟨.inl ⟨rfl, xs, sqL_of hp⟩, os.thn S.tr S1 E1 I1 h1 (fun q => q) fun ws ρ2 us H2 O2 fp2 g2 _ S2 E2 E12 I2 R2 F2 h2 => ?_⟩
    exact Post.mu hr S.tr S2 E2 rfl (R1.per S1 E12) R2 (fresh_of E1 F2) h2
  · simp only [if_neg hi] at h1
    exact h1.elim
theorem ve_mu0 {nm : Str} {id : String} {r : V → List V → Hp → VK → Prop} {g : T → List D → Option (D × T)} (slot : Slot "list" nm id) (hty : typeOf (.builtin id) = pure (.type "method_descriptor")) (hm : MtR X id r) (hr : MuS c r g)
    (ho : VE c X W false o fa) (hbase : attributeBase o nm X.env (eval o X.env) = eval o X.env := by rfl) (hline : (apos.endLine == cpos.line) = true := by rfl) :
    VE c X W false (.Call (.Attribute o nm apos) [] [] cpos) (vMu g fa vNil) := by
  obtain ⟨ta, pa, oa⟩ := ho
  refine ⟨_, pe_bm0 PySem.F.plainAttrs_list slot hty hm pa hbase hline, fun O fp H ρ σ Q S h => oa.thn S.tr S .refl (fun _ => .refl) h (fun q => q) fun x ρ1 u H1 O1 fp1 g1 _ S1 E1 _ I1 R1 F1 h1 => ?_⟩
  by_cases hi : isOwnL x ρ1 = true
  · simp only [if_pos hi] at h1
    obtain ⟨p, xs, eu, hp⟩ := isOwnL_ok hi R1 S1
    subst eu
    exact ⟨.inl ⟨rfl, xs, sqL_of hp⟩, Post.mu (ws := []) (us := []) (g1 := []) hr S.tr S1 E1 rfl R1 ⟨rfl, rfl⟩ (fun _ q => (by cases q)) h1⟩
  · simp only [if_neg hi] at h1
    exact h1.elim
/-- the list's own changes -/
theorem lst_upd {xs ys : List D} {vs : List V} {p : Addr} {f : List Addr} (hf : f = [p]) (own : ∀ b ∈ f, O b) (r : RDs c O H ys vs) : (∀ b, b ∉ f → upd H p (.lst vs) b = H b) ∧ (∀ b ∈ f, nT (upd H p (.lst vs) b)) ∧ RT c O (upd H p (.lst vs)) (.lst ys) (.ref p) f ∧ Stb O H O (upd H p (.lst vs)) := by
  subst hf
  have kp : ∀ b, b ∉ [p] → upd H p (.lst vs) b = H b := fun b n => upd_ne fun q => n (by simp [q])
  have st : Stb O H O (upd H p (.lst vs)) := .of (fun a n _ => kp a fun q => n (own a q)) fun a h => .inl h
  refine ⟨kp, fun b hb => ?_, ⟨p, vs, rfl, upd_same, r.stb st, rfl⟩, st⟩
  simp at hb
  rw [hb]
  exact .of upd_same
def szL (n : Nat) : Bool := decide (n < 16777216)
theorem szL_ok {n : Nat} (h : szL n = true) : n < sizeLine := by rw [sizeLine_eq]; exact of_decide_eq_true h
def muAppend : T → List D → Option (D × T)
  | .lst xs, [d] => if szL xs.length then some (.non, .lst (xs ++ [d])) else none
  | _, _ => none
theorem s_append : MuS c rAppend muAppend := fun O H x vs t ds w t' f Q rt nd own rs e k => by
  unfold muAppend at e
  split at e
  · split at e
    · rename_i h
      cases e
      obtain ⟨p, us, rfl, hp, r, ef⟩ := rt
      obtain ⟨v, r', ev, r1, r2⟩ := rs
      rw [show r' = [] from r2] at ev
      subst ev
      have r1s : RDs c O H [_] [v] := ⟨v, [], rfl, r1, (rfl : ([] : List V) = [])⟩
      obtain ⟨h1, h2, h3, h4⟩ := lst_upd (ys := _) (xs := []) ef own (r.app r1s)
      exact ⟨p, us, v, rfl, rfl, hp, by rw [r.len]; exact szL_ok h, k .non _ h1 h2 h3 rfl⟩
    · cases e
  · cases e
def muPop : T → List D → Option (D × T)
  | .lst xs, [] => (xs[xs.length - 1]?).map fun d => (d, .lst xs.dropLast)
  | _, _ => none
theorem RDs.dropLast {ds : List D} {vs : List V} (r : RDs c O H ds vs) : RDs c O H ds.dropLast vs.dropLast := by
  rw [List.dropLast_eq_take, List.dropLast_eq_take, r.len]
  exact r.tak _
theorem s_pop : MuS c rPop muPop := fun O H x vs t ds w t' f Q rt nd own rs e k => by
  unfold muPop at e
  split at e
  · obtain ⟨d, e1, e2⟩ := Option.map_eq_some_iff.mp e
    cases e2
    obtain ⟨p, us, rfl, hp, r, ef⟩ := rt
    obtain ⟨v, h1, h2⟩ := r.get e1
    obtain ⟨q1, q2, q3, q4⟩ := lst_upd (ys := _) (xs := []) ef own r.dropLast
    exact ⟨p, us, v, rfl, rs, hp, by rw [r.len]; exact h1, k v _ q1 q2 q3 (h2.stb q4)⟩
  · cases e

/-! ### o[i] = v -/
def SeS (c : Vc) (r : TSet) (g : T → D → D → Option T) : Prop := ∀ O H x y z t di dv t' f (Q : Hp → Prop), RT c O H t x f → f.Nodup → (∀ b ∈ f, O b) → Pk c O H di y → RD c O H dv z → g t di dv = some t' →
  (∀ H', (∀ b, b ∉ f → H' b = H b) → (∀ b ∈ f, nT (H' b)) → RT c O H' t' x f → Q H') → r x y z H Q
def kSe (g : T → D → D → Option T) (w x y : Val) : FS := fun ρ => match x with
  | .al i => match ρ[i]?, fz w, vw ρ y with
    | some (some t), some dv, some di => match g t di dv with
      | some t' => some (.nx (ρ.set i (some t')))
      | none => none
    | _, _, _ => none
  | _ => none
def sSe (g : T → D → D → Option T) (fa fo fi : FE) : FS := exS fa fun w => exS fo fun x => exS fi fun y => kSe g w x y
theorem vs_se {i : Expr} {fi : FE} {r : TSet} {g : T → D → D → Option T} (hs : PSet X r) (hr : SeS c r g) (ha : VE c X W false a fa) (ho : VE c X W false o fb) (hi : VE c X W false i fi)
    (h0 : ∀ v, assign (.Subscript o i p2) X.env v = (do
      let ov ← holding [v] (eval o X.env)
      let iv ← holding [v, ov] (eval i X.env)
      standAt p2
      holding [v, ov, iv] (setItem ov iv v)
      release [v, ov, iv] []) := by intro _; rfl)
    (h1 : swapsWithSole [.Subscript o i p2] a pos.line X.env = pure false := by rfl) (h2 : swappedStores [.Subscript o i p2] a X.env = pure none := by rfl)
    (h3 : (assignEach [.Subscript o i p2] X.env).map (·.2) = [assign (.Subscript o i p2) X.env] := by rfl) : VS c X W bor (.Assign [.Subscript o i p2] a pos) (sSe g fa fb fi) := by
  obtain ⟨ta, pa, oa⟩ := ha
  obtain ⟨tb, pb, ob⟩ := ho
  obtain ⟨ti, pi, oi⟩ := hi
  refine ⟨_, ps_asg pa (pg_sub pb pi hs h0) h1 h2 h3, fun O fp H ρ σ D S h => oa.stm S.tr S .refl .refl h fun w ρ1 u H1 O1 fp1 g1 S1 E1 _ _ R1 F1 h => ?_⟩
  refine ob.stm S.tr S1 E1 .refl h fun x ρ2 v H2 O2 fp2 g2 S2 E2 E12 _ R2 F2 h => ?_
  refine oi.stm S.tr S2 E2 .refl h fun y ρ3 v3 H3 O3 fp3 g3 S3 E3 E23 _ R3 F3 h => ?_
  have R1' := (R1.per (ρ1 := ρ2) S1 E12).per (ρ1 := ρ3) S2 E23
  have R2' := R2.per (ρ1 := ρ3) S2 E23
  cases x with
  | al j =>
    simp only [kSe] at h
    split at h
    · rename_i t dv di et ed ei
      split at h
      · rename_i t' eg
        have RW := R1'.rest (O1 := fun a => O3 a ∧ a ∉ g1) ed (fun a q => q.1) (fun a ha q => q.2 ha)
        have S4 := S3.less fun a ha => (R1'.own a ha).2
        have E4 := E3.less S.tr F1
        have hy : ∃ gy, RV c O3 fp3 H3 ρ3 σ y v3 gy := ⟨_, R3⟩
        have pk : Pk c (fun a => O3 a ∧ a ∉ g1) H3 di v3 := (R3.vw S3 ei).less fun a q => q.1
        obtain ⟨f, q1, q2, q3, q4⟩ := S4.mut et R2'.1
        refine hr _ H3 v v3 u t di dv t' f _ q1 q2 q3 pk RW eg fun H' kp tr rt => ?_
        obtain ⟨S5, E5⟩ := q4 H' t' kp tr rt
        exact h σ H' _ fp3 S5 (E4.trans E5 S.tr) .refl
      · exact h.elim
    · exact h.elim
  | _ => exact h.elim
def seL : T → D → D → Option T
  | .lst xs, .int k, d => (ixN xs.length k).map fun j => .lst (xs.set j d)
  | _, _, _ => none
theorem s_seL : SeS c rSetL seL := fun O H x y z t di dv t' f Q rt nd own pk rd e k => by
  unfold seL at e
  split at e
  · obtain ⟨j, e1, e2⟩ := Option.map_eq_some_iff.mp e
    subst e2
    obtain ⟨p, us, rfl, hp, r, ef⟩ := rt
    obtain rfl : y = .int _ := pk
    obtain ⟨h1, h2, h3, h4⟩ := lst_upd (ys := _) (xs := []) ef own (r.upd' j rd)
    exact ⟨p, us, _, j, rfl, rfl, hp, by rw [r.len]; exact e1, k _ h1 h2 h3⟩
  · cases e
end
end Vl

namespace Vl
open PySem PySem.Spec PyProof.Rows L2
section
variable {c : Vc} {X : Cx} {W : WX} {b : Bool} {bor vs : List Nat} {O O1 O2 O' : Addr → Prop} {fp fp1 fp2 fp' : List Addr} {H H1 H2 H' : Hp} {ρ ρ1 ρ2 ρ' : Env} {σ σ1 σ' : L2.St} {k : Nat} {α β : Type}
variable {e elt tg iter : Expr} {es ifs : List Expr} {fe : FE} {ft : FG Bool} {pos : Pos} {gt : FT}
/-! ### the canonical transformers -/
def cnE (c : Vc) (W : WX) (b : Bool) (f : FE) : TE := fun σ H Q => ∃ O fp ρ, SR c O fp H ρ σ ∧ Post (RV c) c W b O fp H σ (f ρ) Q
theorem VE.cn (h : VE c X W b e fe) : PE X e (cnE c W b fe) := by
  obtain ⟨t, p, o⟩ := h
  exact ⟨fun pins s σ H Q I ⟨O, fp, ρ, S, q⟩ => p.run pins s σ H Q I (o O fp H ρ σ Q S q)⟩
def cnT (c : Vc) (W : WX) (b : Bool) (f : FG Bool) : TT := fun σ H Q => ∃ O fp ρ, SR c O fp H ρ σ ∧ Post RB c W b O fp H σ (f ρ) Q
theorem VT.cn (h : VT c X W b e ft) : PT X e (cnT c W b ft) := by
  obtain ⟨t, p, o⟩ := h
  exact ⟨fun pins s σ H Q I ⟨O, fp, ρ, S, q⟩ => p.run pins s σ H Q I (o O fp H ρ σ Q S q)⟩
def cnG (c : Vc) (bor : List Nat) (gt : FT) : TG := fun v σ H Q => ∃ O fp ρ d ρ', SR c O fp H ρ σ ∧ RD c O H d v ∧ gt d ρ = some ρ' ∧ ∀ σ' fp', SR c O fp' H ρ' σ' → (∀ a ∈ fp', a ∈ fp) → Bk bor σ σ' → Q σ' H
theorem VG.cn (h : VG c X bor tg gt) : PG X tg (cnG c bor gt) := by
  obtain ⟨t, p, o⟩ := h
  exact ⟨fun pins s σ H v u Q I r ⟨O, fp, ρ, d, ρ', S, rd, eg, q⟩ => p.run pins s σ H v u Q I r (o O fp H ρ σ d v ρ' Q S rd eg q)⟩
/-- the tests of a comprehension -/
def VTs (c : Vc) (X : Cx) (W : WX) (b : Bool) (ifs : List Expr) (f : FG Bool) : Prop := PTs X ifs (cnT c W b f)
theorem vts_nil : VTs c X W b [] (ret true) := ⟨fun pins s σ H Q I ⟨O, fp, ρ, S, q⟩ => pts_nil.run pins s σ H Q I (q true H O fp [] S .refl (fun _ => .refl) ⟨rfl, rfl⟩ fun _ q => (by cases q))⟩
theorem vts_one (h : VT c X W b e ft) : VTs c X W b [e] ft := pts_one h.cn

/-! ### slots forgotten -/
def wipeE (ρ : Env) : List Nat → Env
  | [] => ρ
  | v :: vs => (wipeE ρ vs).set v none
theorem wipeE_len : ∀ vs : List Nat, (wipeE ρ vs).length = ρ.length
  | [] => rfl
  | v :: vs => by unfold wipeE; rw [List.length_set, wipeE_len vs]
theorem SR.wip (S : SR c O fp H ρ σ) : ∀ {vs : List Nat}, (∀ v ∈ vs, v ∉ c.xs.map (·.i)) → ∃ fp', SR c O fp' H (wipeE ρ vs) (wipe σ vs) ∧ ∀ a ∈ fp', a ∈ fp
  | [], _ => ⟨fp, S, fun _ h => h⟩
  | v :: vs, hx => by
    obtain ⟨fp1, S1, k1⟩ := SR.wip S (vs := vs) fun u hu => hx u (List.mem_cons_of_mem _ hu)
    unfold wipeE wipe
    by_cases hv : v < (wipeE ρ vs).length
    · obtain ⟨fp2, S2, k2⟩ := S1.del (s := none) (hx v List.mem_cons_self) hv
      exact ⟨fp2, S2, fun a ha => k1 a (k2 a ha)⟩
    · have h1 : (wipeE ρ vs).set v none = wipeE ρ vs := List.set_eq_of_length_le (by omega)
      have h2 : (wipe σ vs).set v none = wipe σ vs := List.set_eq_of_length_le (by rw [S1.rs.len]; omega)
      rw [h1, h2]
      exact ⟨fp1, S1, k1⟩
theorem wipeE_mem {v : Nat} : ∀ {vs : List Nat}, v ∈ vs → (wipeE ρ vs)[v]? = none ∨ (wipeE ρ vs)[v]? = some none
  | [], h => by cases h
  | u :: vs, h => by
    unfold wipeE
    by_cases e : u = v
    · subst e
      by_cases hv : u < (wipeE ρ vs).length
      · rw [List.getElem?_set_self hv]; exact .inr rfl
      · exact .inl (List.getElem?_eq_none (by rw [List.length_set]; omega))
    · rw [List.getElem?_set_ne e]
      rcases List.mem_cons.mp h with q | q
      · exact absurd q.symm e
      · exact wipeE_mem q
theorem RS.agree : ∀ {ρ : Env} {σ σ' : L2.St} {fp : List Addr}, RS c O H ρ σ fp → σ'.length = σ.length → (∀ (i : Nat) (t : T), ρ[i]? = some (some t) → σ'[i]? = σ[i]?) → RS c O H ρ σ' fp
  | [], _, σ', _, ⟨e, ef⟩, hl, _ => by subst e; exact ⟨List.length_eq_zero_iff.mp hl, ef⟩
  | none :: ρ, _, σ', _, ⟨s, r, e, h⟩, hl, k => by
    subst e
    cases σ' with
    | nil => cases hl
    | cons s' r' => exact ⟨s', r', rfl, RS.agree h (by simpa using hl) fun i t q => by simpa using k (i + 1) t (by simpa using q)⟩
  | some t :: ρ, _, σ', _, ⟨v, r, f1, f2, e, h, z, ef⟩, hl, k => by
    subst e
    cases σ' with
    | nil => cases hl
    | cons s' r' =>
      have e0 : s' = some v := by simpa using k 0 t rfl
      subst e0
      exact ⟨v, r', f1, f2, rfl, h, RS.agree z (by simpa using hl) (fun i t q => by simpa using k (i + 1) t (by simpa using q)), ef⟩
/-- behind the block: the slots that it forgot are unknown -/
theorem SR.back {σ2 : L2.St} (hx : ∀ v ∈ vs, v ∉ c.xs.map (·.i)) (S : SR c O fp H (wipeE ρ vs) σ2) (e : wipe σ2 vs = wipe σ vs) : SR c O fp H (wipeE ρ vs) σ := by
  have hl : σ.length = σ2.length := by rw [← wipe_length σ vs, ← e, wipe_length]
  refine ⟨S.rs.agree hl fun i t q => ?_, S.nd, S.ow, S.tr, S.tb, fun p hp => ?_⟩
  have ni : i ∉ vs := fun m => by
    rcases wipeE_mem (ρ := ρ) m with z | z
    · rw [z] at q; cases q
    · rw [z] at q; cases q
  rw [← wipe_out (σ := σ) ni, ← e, wipe_out ni]
  have np : p.i ∉ vs := fun m => hx _ m (List.mem_map.mpr ⟨p, hp, rfl⟩)
  refine ⟨?_, (S.px p hp).2⟩
  rw [← wipe_out (σ := σ) np, ← e, wipe_out np]
  exact (S.px p hp).1

/-! ### [elt for tg in iter if ..] -/
/-- one turn: the item made (none: it is left out) -/
def stepC (vs : List Nat) (gt : FT) (ft : FG Bool) (fe : FE) (d : D) (ρ : Env) : Option (Option D × Env) := match gt d ρ with
  | none => none
  | some ρ1 => match ft ρ1 with
    | some (.val true ρ2) => match fe ρ2 with
      | some (.val w ρ3) => (fz w).map fun dv => (some dv, wipeE ρ3 vs)
      | _ => none
    | some (.val false ρ2) => some (none, wipeE ρ2 vs)
    | _ => none
def compD (vs : List Nat) (gt : FT) (ft : FG Bool) (fe : FE) : List D → List D → Env → Option (List D × Env)
  | [], acc, ρ => some (acc, ρ)
  | d :: ds, acc, ρ => match stepC vs gt ft fe d ρ with
    | some (some dv, ρ') => if szL acc.length then compD vs gt ft fe ds (acc ++ [dv]) ρ' else none
    | some (none, ρ') => compD vs gt ft fe ds acc ρ'
    | none => none
def others (n : Nat) (vs : List Nat) : List Nat := (List.range n).filter fun i => !vs.contains i
def kLc (n : Nat) (vs : List Nat) (gt : FT) (ft : FG Bool) (fe : FE) (ds : List D) : FE := fun ρ => if ρ.length ≤ n then match compD vs gt ft fe ds [] (wipeE ρ vs) with
    | some p => some (.val (.nw (.lst p.1)) p.2)
    | none => none
  else none
def vLc (n : Nat) (vs : List Nat) (fi : FG (List D)) (gt : FT) (ft : FG Bool) (fe : FE) : FE := bnd fi (kLc n vs gt ft fe)
def W0 : WX := fun _ _ _ _ => False
theorem takes_blk {s : Shared} {scope : Scope} {cenv : PySem.Env} {fp : List Addr} : Takes (X.blk s H scope cenv fp) W0 := fun u s' ⟨a, B, sI, pins, σ, H, cls, d, e, I, nb, up, sky, na, os, ag, w⟩ => w.elim
theorem upd_stbO {p : Addr} {o : HO} (hp : O p) : Stb O H O (upd H p o) := .of (fun a n _ => upd_ne fun q => n (q ▸ hp)) fun a h => .inl h
theorem wipe_mem {v : Nat} : ∀ {vs : List Nat}, v ∈ vs → v < σ.length → (wipe σ vs)[v]? = some none
  | [], h, _ => by cases h
  | u :: vs, h, hl => by
    unfold wipe
    by_cases e : u = v
    · subst e
      rw [List.getElem?_set_self (by rw [wipe_length]; exact hl)]
    · rw [List.getElem?_set_ne e]
      rcases List.mem_cons.mp h with q | q
      · exact absurd q.symm e
      · exact wipe_mem q hl
theorem wipe_ext {σ2 : L2.St} (hl : σ2.length = σ1.length) (k : ∀ i, i < σ1.length → i ∉ vs → σ2[i]? = σ1[i]?) : wipe σ2 vs = wipe σ1 vs := by
  refine List.ext_getElem? fun i => ?_
  by_cases h : i < σ1.length
  · by_cases m : i ∈ vs
    · rw [wipe_mem m h, wipe_mem m (by omega)]
    · rw [wipe_out m, wipe_out m, k i h m]
  · rw [List.getElem?_eq_none (by rw [wipe_length]; omega), List.getElem?_eq_none (by rw [wipe_length]; omega)]
theorem wipe_wipe : wipe (wipe σ vs) vs = wipe σ vs := wipe_ext (by rw [wipe_length]) fun i _ m => wipe_out m
/-- a tracked thing of one's own, no slot's, is changed -/
theorem SR.updO {D : Addr} {o : HO} {u : HO} (S : SR c O fp H ρ σ) (hO : O D) (hn : D ∉ fp) (e : H D = some u) (hu : isTb u = false) (ho : isTb o = false) : SR c O fp (upd H D o) ρ σ :=
  ⟨S.rs.stb (upd_stbO hO) fun a ha => upd_ne fun q => hn (q ▸ ha), S.nd, S.ow, fun b hb => by
    by_cases z : b = D
    · rw [z]; exact ⟨o, upd_same, ho⟩
    · rw [upd_ne z]; exact S.tr b hb, fun P hP => by
    obtain ⟨ps, e1, e2⟩ := S.tb P hP
    have z : P ≠ D := fun z => by
      rw [z, e] at e1
      cases e1
      cases hu
    exact ⟨ps, by rw [upd_ne z]; exact e1, e2⟩, fun p hp => (S.px p hp).stb (upd_stbO hO)⟩
theorem step_some {d : D} {r : Option D × Env} (h : stepC vs gt ft fe d ρ = some r) : ∃ ρ1 k ρ2, gt d ρ = some ρ1 ∧ ft ρ1 = some (.val k ρ2) ∧ ((k = true ∧ ∃ w ρ3 dv, fe ρ2 = some (.val w ρ3) ∧ fz w = some dv ∧ r = (some dv, wipeE ρ3 vs)) ∨ (k = false ∧ r = (none, wipeE ρ2 vs))) := by
  unfold stepC at h
  split at h
  · cases h
  · rename_i ρ1 e1
    split at h
    · rename_i ρ2 e2
      split at h
      · rename_i w ρ3 e3
        obtain ⟨dv, e4, e5⟩ := Option.map_eq_some_iff.mp h
        exact ⟨ρ1, true, ρ2, e1, e2, .inl ⟨rfl, w, ρ3, dv, e3, e4, e5.symm⟩⟩
      · cases h
    · rename_i ρ2 e2
      cases h
      exact ⟨ρ1, false, ρ2, e1, e2, .inr ⟨rfl, rfl⟩⟩
    · cases h
def lcInv (c : Vc) (vs : List Nat) (gt : FT) (ft : FG Bool) (fe : FE) (σ : L2.St) (fp1 : List Addr) (O1 : Addr → Prop) (H1 : Hp) (D : Addr) (ds : List Vl.D) (p : List Vl.D × Env) (i : Nat) (H' : Hp) : Prop :=
  i ≤ ds.length ∧ ∃ O' fp' ρ0 acc vacc, SR c O' fp' H' (wipeE ρ0 vs) (wipe σ vs) ∧ Ext fp1 O1 H1 fp' O' H' ∧ O' D ∧ D ∉ fp' ∧ H' D = some (.lst vacc) ∧ RDs c O' H' acc vacc ∧ compD vs gt ft fe (ds.drop i) acc (wipeE ρ0 vs) = some p
def GLen (gt : FT) : Prop := ∀ d ρ ρ', gt d ρ = some ρ' → ρ'.length = ρ.length
theorem gLen_n {i : Nat} : GLen (gN i) := fun d ρ ρ' h => by
  unfold gN at h
  split at h
  · cases h; exact List.length_set ..
  · cases h
def GsLen (gt : FTs) : Prop := ∀ d ρ ρ', gt d ρ = some ρ' → ρ'.length = ρ.length
theorem gsLen_n : GsLen gsN := fun d ρ ρ' h => by
  unfold gsN at h
  split at h
  · cases h; rfl
  · cases h
theorem gsLen_c {g : FT} {gs : FTs} (h1 : GLen g) (h2 : GsLen gs) : GsLen (gsC g gs) := fun d ρ ρ' h => by
  unfold gsC at h
  split at h
  · obtain ⟨ρ1, e1, e2⟩ := Option.bind_eq_some_iff.mp h
    exact (h2 _ _ _ e2).trans (h1 _ _ _ e1)
  · cases h
theorem gLen_t {gs : FTs} (h1 : GsLen gs) : GLen (gT gs) := fun d ρ ρ' h => by
  unfold gT at h
  split at h
  · exact h1 _ _ _ h
  · cases h
theorem ok_lc {wi : TI} {fi : FG (List D)} {n : Nat} (hx : ∀ v ∈ vs, v ∉ c.xs.map (·.i)) (hgl : GLen gt) (hi : OkI c W fi wi) : Ok (RV c) c W false (vLc n vs fi gt ft fe) (tLc wi (cnG c (others n vs) gt) (cnT c W0 false ft) (cnE c W0 false fe) vs) := fun O fp H ρ σ Q S h => by
  refine hi O fp H ρ σ _ S ?_
  unfold vLc bnd at h
  revert h
  cases fi ρ with
  | none => exact fun h => h
  | some o =>
    cases o with
    | exc x ρ' => exact fun h => h
    | val ds ρ1 =>
      intro h J H1 O1 fp1 S1 E1 Y D hD
      unfold kLc at h
      by_cases hn : ρ1.length ≤ n
      case neg => simp only [if_neg hn] at h; exact h.elim
      simp only [if_pos hn] at h
      cases ec : compD vs gt ft fe ds [] (wipeE ρ1 vs) with
      | none => simp only [ec] at h; exact h.elim
      | some p =>
        simp only [ec] at h
        have hl : σ.length ≤ n := by rw [S1.rs.len]; exact hn
        have nD : ¬ nT (H1 D) := fun q => q.ne hD
        refine ⟨fun i m H' => m = ds.length - i ∧ lcInv c vs gt ft fe σ fp1 O1 H1 D ds p i H', ⟨_, rfl, Nat.zero_le _, ?_⟩, ?_⟩
        · have S2 := S1.grow (g := [D]) (H' := upd H1 D (.lst [])) (fun b hb => upd_ne fun q => hb (by rw [q]; exact hD)) (fun a ha => by simp at ha; rw [ha]; exact ⟨hD, .of upd_same⟩)
          obtain ⟨fp2, S3, k3⟩ := S2.wip (vs := vs) hx
          have nf : D ∉ fp1 := fun q => nD (S1.tr D (S1.ow D q))
          refine ⟨_, fp2, ρ1, [], [], S3, ⟨fun b hb _ => upd_ne fun q => nD (q ▸ hb), fun b hb => ?_, fun b hb _ => .inl hb, fun b hb => hb.imp id fun q => (by simp at q; rw [q]; exact hD), fun b hb => .inl (k3 b hb)⟩, .inr (by simp), fun q => nf (k3 D q), upd_same, (rfl : ([] : List V) = []), ec⟩
          by_cases z : b = D
          · rw [z, upd_same]; simp
          · rw [upd_ne z]; exact hb
        · rintro i m H' ⟨rfl, hi, O', fp', ρ0, acc, vacc, S', E', oD, nf, eD, rs, ek⟩
          by_cases hlt : i < ds.length
          · have ed := List.getElem?_eq_getElem hlt
            obtain ⟨go, yl⟩ := Y.go O' fp' H' i _ E' S'.ow S'.tr ed
            refine .inr ⟨go, fun H2 => lcInv c vs gt ft fe σ fp1 O1 H1 D ds p (i + 1) H2, fun H2 q => ⟨ds.length - (i + 1), by omega, rfl, q⟩, fun x H3 y => ?_⟩
            obtain ⟨kp, rd⟩ := yl x H3 y
            have S3 : SR c O' fp' H3 (wipeE ρ0 vs) (wipe σ vs) := ⟨S'.rs.stb (.of (fun a _ h => kp a h.ne) fun a h => .inl h) fun a ha => kp a (S'.tr a (S'.ow a ha)).ne, S'.nd, S'.ow, fun b h => by rw [kp b (S'.tr b h).ne]; exact S'.tr b h, fun P hP => by
              obtain ⟨ps, e, k⟩ := S'.tb P hP
              exact ⟨ps, by rw [kp P (by rw [e]; simp)]; exact e, k⟩, fun p hp => (S'.px p hp).stb (.of (fun a _ h => kp a h.ne) fun a h => .inl h)⟩
            have E3 : Ext fp' O' H' fp' O' H3 := ⟨fun b h _ => kp b h.ne, fun b h => by rw [kp b h]; exact h, fun _ h _ => h, fun _ h => .inl h, fun _ h => .inl h⟩
            rw [List.drop_eq_getElem_cons hlt] at ek
            unfold compD at ek
            cases es : stepC vs gt ft fe ds[i] (wipeE ρ0 vs) with
            | none => rw [es] at ek; cases ek
            | some r =>
              rw [es] at ek
              obtain ⟨ρ1', kb, ρ2, e1, e2, e3⟩ := step_some es
              refine ⟨O', fp', _, _, ρ1', S3, rd, e1, fun σ4 fp4 S4 k4 B4 => ⟨?_, O', fp4, ρ1', S4, ?_⟩⟩
              · have l4 : σ4.length = σ.length := by
                  have h1 := S4.rs.len
                  have h2 := S3.rs.len
                  rw [wipe_length] at h2
                  have h3 := hgl _ _ _ e1
                  omega
                rw [← wipe_wipe (σ := σ)]
                refine wipe_ext (by rw [wipe_length]; exact l4) fun j hj m => B4 j ?_
                rw [wipe_length] at hj
                unfold others
                rw [List.mem_filter, List.mem_range]
                exact ⟨by omega, by simpa using m⟩
              · rw [e2]
                intro u H4 O4 fp5 g S5 E5 I5 R5 F5
                obtain ⟨rfl, _⟩ := R5
                have hw4 : wipe σ4 vs = wipe σ vs := by
                  have l4 : σ4.length = σ.length := by
                    have h1 := S4.rs.len
                    have h2 := S3.rs.len
                    rw [wipe_length] at h2
                    have h3 := hgl _ _ _ e1
                    omega
                  rw [← wipe_wipe (σ := σ)]
                  refine wipe_ext (by rw [wipe_length]; exact l4) fun j hj m => B4 j ?_
                  rw [wipe_length] at hj
                  unfold others
                  rw [List.mem_filter, List.mem_range]
                  exact ⟨by omega, by simpa using m⟩
                have E14 : Ext fp1 O1 H1 fp4 O' H3 := E'.trans ⟨E3.kp, E3.th, E3.ok, E3.on, fun a ha => .inl (k4 a ha)⟩ S1.tr
                have E15 := E14.trans E5 S1.tr
                have d3 : H3 D = some (.lst vacc) := (kp D (by rw [eD]; simp)).trans eD
                have nf4 : D ∉ fp4 := fun q => nf (k4 D q)
                have d4 : H4 D = some (.lst vacc) := (E5.kp D (.of d3) nf4).trans d3
                have o4 : O4 D := E5.ok D oD nf4
                have nf5 : D ∉ fp5 := fun q => (E5.fn D q).elim nf4 fun z => by rw [d3] at z; cases z
                have rs3 : RDs c O' H3 acc vacc := rs.stb (E3.stb S'.ow)
                have rs4 : RDs c O4 H4 acc vacc := rs3.stb (E5.stb S4.ow)
                rcases e3 with ⟨rfl, w, ρ3, dv, e4, e5, rfl⟩ | ⟨rfl, rfl⟩
                · rw [if_pos rfl]
                  refine ⟨O4, fp5, ρ2, S5, ?_⟩
                  rw [e4]
                  intro y H6 O6 fp6 g6 S6 E6 _ R6 F6
                  have d6 : H6 D = some (.lst vacc) := (E6.kp D (.of d4) nf5).trans d4
                  have o6 : O6 D := E6.ok D o4 nf5
                  have nf6 : D ∉ fp6 := fun q => (E6.fn D q).elim nf5 fun z => by rw [d4] at z; cases z
                  have ng6 : D ∉ g6 := fun q => (F6 D q).elim (fun z => by rw [d4] at z; cases z) nf5
                  have rs6 : RDs c O6 H6 acc vacc := rs4.stb (E6.stb S5.ow)
                  have RR := R6.rest (O1 := fun a => O6 a ∧ a ∉ g6) e5 (fun a q => q.1) (fun a ha q => q.2 ha)
                  have S7 := S6.less fun a ha => (R6.own a ha).2
                  have E7 := E15.trans (E6.less S5.tr F6) S1.tr
                  have o7 : O6 D ∧ D ∉ g6 := ⟨o6, ng6⟩
                  by_cases hz : szL acc.length = true
                  · simp only [if_pos hz] at ek
                    refine ⟨vacc, d6, by rw [rs.len]; exact szL_ok hz, ?_⟩
                    have S8 := S7.updO (D := D) (o := .lst (vacc ++ [y])) o7 nf6 d6 rfl rfl
                    obtain ⟨fp9, S9, k9⟩ := S8.wip (vs := vs) hx
                    rw [hw4] at S9
                    have st : Stb (fun a => O6 a ∧ a ∉ g6) H6 (fun a => O6 a ∧ a ∉ g6) (upd H6 D (.lst (vacc ++ [y]))) := upd_stbO (O := fun a => O6 a ∧ a ∉ g6) o7
                    have one : RDs c (fun a => O6 a ∧ a ∉ g6) H6 [dv] [y] := ⟨y, [], rfl, RR, (rfl : ([] : List V) = [])⟩
                    refine ⟨hlt, _, fp9, ρ3, acc ++ [dv], vacc ++ [y], S9, ⟨fun b hb n => ?_, fun b hb => ?_, E7.ok, E7.on, fun b hb => E7.fn b (k9 b hb)⟩, o7, fun q => nf6 (k9 D q), upd_same, ((rs6.stb (.less fun a q => q.1)).app one).stb st, ek⟩
                    · have z : b ≠ D := fun z => nD (z ▸ hb)
                      rw [upd_ne z]; exact E7.kp b hb n
                    · by_cases z : b = D
                      · rw [z, upd_same]; simp
                      · rw [upd_ne z]; exact E7.th b hb
                  · simp only [if_neg hz] at ek
                    cases ek
                · rw [if_neg Bool.false_ne_true]
                  obtain ⟨fp9, S9, k9⟩ := S5.wip (vs := vs) hx
                  rw [hw4] at S9
                  exact ⟨hlt, O4, fp9, ρ2, acc, vacc, S9, ⟨E15.kp, E15.th, E15.ok, E15.on, fun b hb => E15.fn b (k9 b hb)⟩, o4, fun q => nf5 (k9 D q), d4, rs4, ek⟩
          · have ei : i = ds.length := by omega
            subst ei
            rw [List.drop_length] at ek
            unfold compD at ek
            cases ek
            refine .inl ⟨Y.stop O' fp' H' E' S'.tr, h (.ref D) H' O' fp' [D] (S'.back hx wipe_wipe) (E1.trans E' S.tr) (fun q => (by cases q)) ⟨⟨D, vacc, rfl, eD, rs, rfl⟩, by simp, fun a ha => ?_⟩ fun a ha => ?_⟩
            · simp at ha; rw [ha]; exact ⟨oD, nf⟩
            · simp at ha; rw [ha]; exact .inl (Classical.byContradiction fun z => E1.th D z hD)
theorem ve_lc {scope : Scope} {own : List (Str × Nat)} {fi : FG (List D)} (n : Nat) (hc : X.calm = true) (hN : X.N.Nodup) (hi : VI c X W tg iter fi) (ok : BlkOk X.N X.env.scope scope own) (hgl : GLen gt)
    (hg : ∀ (s : Shared) (H : Hp) (C : Addr) (cl : List (Str × Addr)) (fp : List Addr), VG c (X.blk s H scope (compEnvC scope cl C X.env) fp) (others n (own.map (·.2))) tg gt)
    (ht : ∀ (s : Shared) (H : Hp) (C : Addr) (cl : List (Str × Addr)) (fp : List Addr), VTs c (X.blk s H scope (compEnvC scope cl C X.env) fp) W0 false ifs ft)
    (he : ∀ (s : Shared) (H : Hp) (C : Addr) (cl : List (Str × Addr)) (fp : List Addr), VE c (X.blk s H scope (compEnvC scope cl C X.env) fp) W0 false elt fe)
    (hxs : ∀ v ∈ own.map (·.2), v ∉ c.xs.map (·.i) := by exact nmAll rfl) (hs : ∀ x, foldedSetIterable iter X.env x = pure x := by intro _; rfl) : VE c X W false (.ListComp elt [⟨tg, iter, ifs, 0⟩] scope pos) (vLc n (own.map (·.2)) fi gt ft fe) := by
  obtain ⟨wi, pi, oi⟩ := hi
  exact ⟨_, pe_lc hc hN pi ok (fun s H C cl fp => (hg s H C cl fp).cn) ht (fun s H C cl fp => (he s H C cl fp).cn) hs, ok_lc hxs hgl oi⟩
/-- name = [..] on one line -/
theorem vs_setLc {i : Nat} {y : Str} {py spos : Pos} {scope : Scope} {own : List (Str × Nat)} {fi : FG (List D)} (n : Nat) (hc : X.calm = true) (hN : X.N.Nodup) (hy : X.N[i]? = some y) (hyl : X.env.scope.names.lookup y = some .local)
    (hsw : swapsWith (.ListComp elt [⟨tg, iter, ifs, 0⟩] scope pos) (some (.Name y py)) spos.line X.env = pure true) (hi : VI c X W tg iter fi) (ok : BlkOk X.N X.env.scope scope own) (hgl : GLen gt)
    (hg : ∀ (s : Shared) (H : Hp) (C : Addr) (cl : List (Str × Addr)) (fp : List Addr), VG c (X.blk s H scope (compEnvC scope cl C X.env) fp) (others n (own.map (·.2))) tg gt)
    (ht : ∀ (s : Shared) (H : Hp) (C : Addr) (cl : List (Str × Addr)) (fp : List Addr), VTs c (X.blk s H scope (compEnvC scope cl C X.env) fp) W0 false ifs ft)
    (he : ∀ (s : Shared) (H : Hp) (C : Addr) (cl : List (Str × Addr)) (fp : List Addr), VE c (X.blk s H scope (compEnvC scope cl C X.env) fp) W0 false elt fe)
    (hb : i ∉ bor := by decide) (hxi : i ∉ c.xs.map (·.i) := by exact nmIn rfl) (hxs : ∀ v ∈ own.map (·.2), v ∉ c.xs.map (·.i) := by exact nmAll rfl) (hs : ∀ x, foldedSetIterable iter X.env x = pure x := by intro _; rfl) : VS c X W bor (.Assign [.Name y py] (.ListComp elt [⟨tg, iter, ifs, 0⟩] scope pos) spos) (sSet i (vLc n (own.map (·.2)) fi gt ft fe)) := by
  obtain ⟨wi, pi, oi⟩ := hi
  refine ⟨_, ps_setLc hc hN hy hyl hsw pi ok (fun s H C cl fp => (hg s H C cl fp).cn) ht (fun s H C cl fp => (he s H C cl fp).cn) hs, fun O fp H ρ σ D S h => (ok_lc hxs hgl oi).stm S.tr S .refl .refl h fun x ρ1 u H1 O1 fp1 g1 S1 E1 _ _ R1 F1 h1 => ?_⟩
  exact kSet_ok hb hxi h1 S1 E1 R1 F1
end
end Vl

namespace Vl
open PySem PySem.Spec PyProof.Rows L2
section
variable {c : Vc} {X : Cx} {W : WX} {b : Bool} {bor vs : List Nat} {O O1 O2 O' : Addr → Prop} {fp fp1 fp2 fp' fa fq : List Addr} {H H1 H2 H' : Hp} {ρ ρ1 ρ2 ρ' : Env} {σ σ1 σ' : L2.St} {k n : Nat} {α β : Type}
variable {e o : Expr} {es : List Expr} {fo : FE} {fs : FG (List Val)} {pos apos p : Pos} {F : FF} {f C : Addr} {fd : FuncData} {ps : List Str} {x m : Str}
/-! ### arguments lent -/
def RA (c : Vc) (O : Addr → Prop) (H : Hp) (σ : L2.St) : List Val → List V → Prop
  | [], us => us = []
  | w :: ws, us => ∃ u r, us = u :: r ∧ (match w with
    | .fr d => RD c O H d u
    | .nw t => RD c O H t.toD u
    | .al i => σ[i]? = some (some u)
    | .pt i j => ∃ a vs, σ[i]? = some (some (.ref a)) ∧ (H a = some (.lst vs) ∧ ¬ O a) ∧ vs[j]? = some u) ∧ RA c O H σ ws r
theorem RVs.ra {O2 : Addr → Prop} : ∀ {ws : List Val} {us : List V} {g : List Addr}, RVs c O fp H ρ σ ws us g → (∀ a, O2 a → O a) → (∀ a ∈ g, ¬ O2 a) → RA c O2 H σ ws us
  | [], _, _, h, _, _ => h.1
  | w :: ws, _, _, ⟨u, r, g1, g2, e, h, t, eg, _⟩, hO, hg => by
    refine ⟨u, r, e, ?_, RVs.ra t hO fun a ha => hg a (by rw [eg]; simp [ha])⟩
    cases w with
    | fr d => exact h.1.stb (.less hO)
    | nw t => exact h.1.rest hO fun a ha => hg a (by rw [eg]; simp [ha])
    | al i => exact h.1
    | pt i j =>
      obtain ⟨a, vs, h1, h2, h3⟩ := h.1
      exact ⟨a, vs, h1, ⟨h2.1, fun q => h2.2 (hO a q)⟩, h3⟩
theorem RA.stb (s : Stb O H O' H') : ∀ {ws : List Val} {us : List V}, RA c O H σ ws us → RA c O' H' σ ws us
  | [], _, h => h
  | w :: ws, _, ⟨u, r, e, h, t⟩ => by
    refine ⟨u, r, e, ?_, RA.stb s t⟩
    cases w with
    | fr d => exact h.stb s
    | nw t => exact h.stb s
    | al i => exact h
    | pt i j =>
      obtain ⟨a, vs, h1, h2, h3⟩ := h
      exact ⟨a, vs, h1, ⟨(s.1 a h2.2 (.of h2.1)).2.2.2.1 _ h2.1, s.no h2.2 (.of h2.1)⟩, h3⟩
/-- the part j: its own, the others' -/
theorem RTs.part {O : Addr → Prop} {H : Hp} : ∀ {ts : List T} {vs : List V} {f : List Addr} {j : Nat} {t : T}, RTs c O H ts vs f → ts[j]? = some t → ∃ v f1 fl fr, vs[j]? = some v ∧ RT c O H t v f1 ∧ f = fl ++ f1 ++ fr ∧
    ∀ {O' : Addr → Prop} {H' : Hp} {t' : T} {f' : List Addr}, Stb O H O' H' → (∀ a ∈ fl ++ fr, H' a = H a) → RT c O' H' t' v f' → RTs c O' H' (ts.set j t') vs (fl ++ f' ++ fr)
  | [], _, _, _, _, _, h => by simp at h
  | t0 :: ts, _, _, 0, t, ⟨v, r, f1, f2, e, h, z, ef⟩, q => by
    have et : t0 = t := by simpa using q
    subst et
    refine ⟨v, f1, [], f2, by rw [e]; rfl, h, by rw [ef]; rfl, fun s k y => ⟨v, r, _, f2, e, y, z.stb s (fun a ha => k a (by simpa using ha)), by simp⟩⟩
  | t0 :: ts, _, _, j + 1, t, ⟨v, r, f1, f2, e, h, z, ef⟩, q => by
    obtain ⟨v', g, fl, fr, h1, h2, h3, h4⟩ := RTs.part (j := j) z (by simpa using q)
    refine ⟨v', g, f1 ++ fl, fr, by rw [e]; simpa using h1, h2, by rw [ef, h3]; simp, fun s k y => ⟨v, r, f1, _, e, h.stb s (fun a ha => k a (by simp [ha])), h4 s (fun a ha => k a (by simp at ha ⊢; rcases ha with ha | ha <;> simp [ha])) y, by simp⟩⟩
def takeA (ρ : Env) : List Val → Option (List T × Env)
  | [] => some ([], ρ)
  | .fr d :: ws => (takeA ρ ws).map fun q => (.fr d :: q.1, q.2)
  | .nw t :: ws => (takeA ρ ws).map fun q => (.fr t.toD :: q.1, q.2)
  | .al i :: ws => match ρ[i]? with
    | some (some t) => (takeA (ρ.set i none) ws).map fun q => (t :: q.1, q.2)
    | _ => none
  | .pt i j :: ws => match ρ[i]? with
    | some (some (.tl ts)) => match ts[j]? with
      | some t => (takeA (ρ.set i (some (.tl (ts.set j .hole)))) ws).map fun q => (t :: q.1, q.2)
      | none => none
    | _ => none
def giveA : Env → List Val → List T → Env
  | ρ, .al i :: ws, t :: ts => giveA (ρ.set i (some t)) ws ts
  | ρ, .fr _ :: ws, _ :: ts => giveA ρ ws ts
  | ρ, .nw _ :: ws, _ :: ts => giveA ρ ws ts
  | ρ, .pt i j :: ws, t :: ts => match ρ[i]? with
    | some (some (.tl xs)) => giveA (ρ.set i (some (.tl (xs.set j t)))) ws ts
    | _ => giveA ρ ws ts
  | ρ, _, _ => ρ
theorem take_ok : ∀ {ws : List Val} {us : List V} {ts : List T} {fp : List Addr} {ρ ρ1 : Env}, SR c O fp H ρ σ → RA c O H σ ws us → takeA ρ ws = some (ts, ρ1) →
    ∃ fa fq, RTs c O H ts us fa ∧ SR c O fq H ρ1 σ ∧ fa.Nodup ∧ (∀ a ∈ fa, a ∈ fp ∧ a ∉ fq) ∧ ∀ a ∈ fq, a ∈ fp
  | [], us, ts, fp, ρ, ρ1, S, r, e => by
    cases e
    exact ⟨[], fp, ⟨r, rfl⟩, S, .nil, fun a ha => (by cases ha), fun a ha => ha⟩
  | .fr d :: ws, us, ts, fp, ρ, ρ1, S, ⟨u, r, eu, h, t⟩, e => by
    unfold takeA at e
    obtain ⟨q, e1, e2⟩ := Option.map_eq_some_iff.mp e
    obtain ⟨fa, fq, h1, h2, h3, h4, h5⟩ := take_ok S t (show takeA ρ ws = some (q.1, q.2) from e1)
    cases e2
    exact ⟨fa, fq, ⟨u, r, [], fa, eu, ⟨h, rfl⟩, h1, rfl⟩, h2, h3, h4, h5⟩
  | .nw d :: ws, us, ts, fp, ρ, ρ1, S, ⟨u, r, eu, h, t⟩, e => by
    unfold takeA at e
    obtain ⟨q, e1, e2⟩ := Option.map_eq_some_iff.mp e
    obtain ⟨fa, fq, h1, h2, h3, h4, h5⟩ := take_ok S t (show takeA ρ ws = some (q.1, q.2) from e1)
    cases e2
    exact ⟨fa, fq, ⟨u, r, [], fa, eu, ⟨h, rfl⟩, h1, rfl⟩, h2, h3, h4, h5⟩
  | .al i :: ws, us, ts, fp, ρ, ρ1, S, ⟨u, r, eu, h, t⟩, e => by
    unfold takeA at e
    split at e
    · rename_i t0 et
      obtain ⟨q, e1, e2⟩ := Option.map_eq_some_iff.mp e
      obtain ⟨v, f1, fl, fr, g1, g2, g3, _, g5⟩ := S.rs.get et
      have h : σ[i]? = some (some u) := h
      rw [h] at g1
      obtain rfl : u = v := by simpa using g1
      have RS' := g5 (O' := O) (H' := H) (s' := some u) (.less fun a q => q) fun _ _ => rfl
      rw [set_same h] at RS'
      have nd := S.nd
      rw [g3] at nd
      have dj : ∀ a ∈ fl ++ fr, a ∉ f1 := by
        simp only [List.nodup_append, List.mem_append] at nd ⊢
        rintro a (ha | ha) hf
        · exact nd.1.2.2 a ha a hf rfl
        · exact nd.2.2 a (.inr hf) a ha rfl
      have n1 : f1.Nodup := by
        simp only [List.nodup_append] at nd
        exact nd.1.2.1
      have sub : ∀ a ∈ fl ++ fr, a ∈ fp := fun a ha => by
        rw [g3]
        simp only [List.mem_append] at ha ⊢
        rcases ha with ha | ha <;> simp [ha]
      have S2 : SR c O (fl ++ fr) H (ρ.set i none) σ := ⟨RS', nodup_less nd, fun a ha => S.ow a (sub a ha), S.tr, S.tb, S.px⟩
      obtain ⟨fa, fq, h1, h2, h3, h4, h5⟩ := take_ok S2 t (show takeA (ρ.set i none) ws = some (q.1, q.2) from e1)
      cases e2
      refine ⟨f1 ++ fa, fq, ⟨u, r, f1, fa, eu, g2, h1, rfl⟩, h2, List.nodup_append.mpr ⟨n1, h3, fun a ha b hb e => dj b (h4 b hb).1 (e ▸ ha)⟩, fun a ha => ?_, fun a ha => sub a (h5 a ha)⟩
      rcases List.mem_append.mp ha with z | z
      · exact ⟨by rw [g3]; simp [z], fun q => dj a (h5 a q) z⟩
      · exact ⟨sub a (h4 a z).1, (h4 a z).2⟩
    · cases e
  | .pt i j :: ws, us, ts, fp, ρ, ρ1, S, ⟨u, r, eu, h, t⟩, e => by
    unfold takeA at e
    split at e
    · rename_i xs et
      split at e
      · rename_i t0 ej
        obtain ⟨q, e1, e2⟩ := Option.map_eq_some_iff.mp e
        obtain ⟨v, f0, fL, fR, g1, g2, g3, g4, _⟩ := S.rs.get et
        obtain ⟨a, vs, q1, q2, q3⟩ := h
        obtain ⟨a', vs', rfl, w2, w3⟩ := g2
        rw [q1] at g1
        cases g1
        rw [q2.1] at w2
        cases w2.1
        obtain ⟨v', f1, fl, fr, x1, x2, x3, x4⟩ := w3.part ej
        rw [q3] at x1
        cases x1
        have st : Stb O H O H := .less fun a q => q
        have RT' : RT c O H (.tl (xs.set j .hole)) (.ref a) (fl ++ [] ++ fr) := ⟨a, vs, rfl, q2, x4 st (fun _ _ => rfl) rfl⟩
        have RS' := g4 (O' := O) (H' := H) st (fun _ _ => rfl) RT'
        rw [set_same q1] at RS'
        have nd := S.nd
        rw [g3, x3] at nd
        have nd2 : (fL ++ (fl ++ [] ++ fr) ++ fR).Nodup := by
          simp only [List.nodup_append, List.mem_append, List.append_nil] at nd ⊢
          obtain ⟨⟨n1, ⟨⟨n2, n3, n4⟩, n5, n6⟩, n7⟩, n8, n9⟩ := nd
          refine ⟨⟨n1, ⟨n2, n5, fun a ha b hb => n6 a (.inl ha) b hb⟩, fun a ha b hb => n7 a ha b (hb.imp .inl id)⟩, n8, fun a ha b hb => n9 a (ha.imp id fun z => z.imp .inl id) b hb⟩
        have n1 : f1.Nodup := by
          simp only [List.nodup_append] at nd
          exact nd.1.2.1.1.2.1
        have dj : ∀ a ∈ fL ++ (fl ++ [] ++ fr) ++ fR, a ∉ f1 := by
          simp only [List.nodup_append, List.mem_append, List.append_nil] at nd ⊢
          obtain ⟨⟨m1, ⟨⟨m2, m3, m4⟩, m5, m6⟩, m7⟩, m8, m9⟩ := nd
          rintro a ((ha | ha | ha) | ha) hf
          · exact m7 a ha a (.inl (.inr hf)) rfl
          · exact m4 a ha a hf rfl
          · exact m6 a (.inr hf) a ha rfl
          · exact m9 a (.inr (.inl (.inr hf))) a ha rfl
        have sub : ∀ a ∈ fL ++ (fl ++ [] ++ fr) ++ fR, a ∈ fp := fun a ha => by
          rw [g3, x3]
          simp only [List.mem_append, List.append_nil] at ha ⊢
          rcases ha with (ha | ha | ha) | ha <;> simp [ha]
        have S2 : SR c O (fL ++ (fl ++ [] ++ fr) ++ fR) H (ρ.set i (some (.tl (xs.set j .hole)))) σ := ⟨RS', nd2, fun a ha => S.ow a (sub a ha), S.tr, S.tb, S.px⟩
        obtain ⟨fa, fq, h1, h2, h3, h4, h5⟩ := take_ok S2 t (show takeA (ρ.set i (some (.tl (xs.set j .hole)))) ws = some (q.1, q.2) from e1)
        cases e2
        refine ⟨f1 ++ fa, fq, ⟨u, r, f1, fa, eu, x2, h1, rfl⟩, h2, List.nodup_append.mpr ⟨n1, h3, fun a ha b hb e => dj b (h4 b hb).1 (e ▸ ha)⟩, fun a ha => ?_, fun a ha => sub a (h5 a ha)⟩
        rcases List.mem_append.mp ha with z | z
        · exact ⟨by rw [g3, x3]; simp [z], fun q => dj a (h5 a q) z⟩
        · exact ⟨sub a (h4 a z).1, (h4 a z).2⟩
      · cases e
    · cases e
theorem take_len : ∀ {ws : List Val} {ts : List T} {ρ ρ1 : Env}, takeA ρ ws = some (ts, ρ1) → ρ1.length = ρ.length ∧ ∀ i, Val.al i ∈ ws → i < ρ.length
  | [], ts, ρ, ρ1, e => by
    cases e
    exact ⟨rfl, fun i h => (by cases h)⟩
  | .fr d :: ws, ts, ρ, ρ1, e => by
    unfold takeA at e
    obtain ⟨q, e1, e2⟩ := Option.map_eq_some_iff.mp e
    cases e2
    obtain ⟨h1, h2⟩ := take_len (show takeA ρ ws = some (q.1, q.2) from e1)
    exact ⟨h1, fun i h => h2 i (by simpa using h)⟩
  | .nw d :: ws, ts, ρ, ρ1, e => by
    unfold takeA at e
    obtain ⟨q, e1, e2⟩ := Option.map_eq_some_iff.mp e
    cases e2
    obtain ⟨h1, h2⟩ := take_len (show takeA ρ ws = some (q.1, q.2) from e1)
    exact ⟨h1, fun i h => h2 i (by simpa using h)⟩
  | .al j :: ws, ts, ρ, ρ1, e => by
    unfold takeA at e
    split at e
    · rename_i t0 et
      obtain ⟨q, e1, e2⟩ := Option.map_eq_some_iff.mp e
      cases e2
      obtain ⟨h1, h2⟩ := take_len (show takeA (ρ.set j none) ws = some (q.1, q.2) from e1)
      rw [List.length_set] at h1 h2
      refine ⟨h1, fun i h => ?_⟩
      rcases List.mem_cons.mp h with z | z
      · cases z; exact (List.getElem?_eq_some_iff.mp et).1
      · exact h2 i z
    · cases e
  | .pt k j :: ws, ts, ρ, ρ1, e => by
    unfold takeA at e
    split at e
    · rename_i xs et
      split at e
      · rename_i t0 ej
        obtain ⟨q, e1, e2⟩ := Option.map_eq_some_iff.mp e
        cases e2
        obtain ⟨h1, h2⟩ := take_len (show takeA (ρ.set k (some (.tl (xs.set j .hole)))) ws = some (q.1, q.2) from e1)
        rw [List.length_set] at h1 h2
        exact ⟨h1, fun i h => h2 i (by simpa using h)⟩
      · cases e
    · cases e
theorem give_ok : ∀ {ws : List Val} {us : List V} {ts : List T} {fq fa : List Addr} {ρ : Env}, SR c O fq H ρ σ → RA c O H σ ws us → RTs c O H ts us fa → fa.Nodup → (∀ a ∈ fa, O a ∧ a ∉ fq) → (∀ i, Val.al i ∈ ws → i < ρ.length) →
    ∃ fp', SR c O fp' H (giveA ρ ws ts) σ ∧ ∀ a ∈ fp', a ∈ fq ∨ a ∈ fa
  | [], us, ts, fq, fa, ρ, S, _, r, _, _, _ => ⟨fq, S, fun a ha => .inl ha⟩
  | w :: ws, us, [], fq, fa, ρ, S, _, r, _, _, _ => ⟨fq, by cases w <;> exact S, fun a ha => .inl ha⟩
  | .fr d :: ws, us, t :: ts, fq, fa, ρ, S, ⟨u, r, eu, _, ra⟩, ⟨u', r', f1, f2, eu', h1, h2, ef⟩, nd, ow, li => by
    rw [eu] at eu'
    cases eu'
    obtain ⟨fp', q1, q2⟩ := give_ok S ra h2 (by rw [ef] at nd; exact (List.nodup_append.mp nd).2.1) (fun a ha => ow a (by rw [ef]; simp [ha])) (fun i h => li i (by simp [h]))
    exact ⟨fp', q1, fun a ha => (q2 a ha).imp id fun z => by rw [ef]; simp [z]⟩
  | .nw d :: ws, us, t :: ts, fq, fa, ρ, S, ⟨u, r, eu, _, ra⟩, ⟨u', r', f1, f2, eu', h1, h2, ef⟩, nd, ow, li => by
    rw [eu] at eu'
    cases eu'
    obtain ⟨fp', q1, q2⟩ := give_ok S ra h2 (by rw [ef] at nd; exact (List.nodup_append.mp nd).2.1) (fun a ha => ow a (by rw [ef]; simp [ha])) (fun i h => li i (by simp [h]))
    exact ⟨fp', q1, fun a ha => (q2 a ha).imp id fun z => by rw [ef]; simp [z]⟩
  | .al i :: ws, us, t :: ts, fq, fa, ρ, S, ⟨u, r, eu, hu, ra⟩, ⟨u', r', f1, f2, eu', h1, h2, ef⟩, nd, ow, li => by
    rw [eu] at eu'
    cases eu'
    have hu : σ[i]? = some (some u) := hu
    rw [ef] at nd
    obtain ⟨n1, n2, n3⟩ := List.nodup_append.mp nd
    obtain ⟨fp1, S1, k1⟩ := S.put (i := i) (.inr hu) (li i (by simp)) h1 n1 (fun a ha => ow a (by rw [ef]; simp [ha]))
    rw [set_same hu] at S1
    obtain ⟨fp', q1, q2⟩ := give_ok S1 ra h2 n2 (fun a ha => ⟨(ow a (by rw [ef]; simp [ha])).1, fun z => (k1 a z).elim (ow a (by rw [ef]; simp [ha])).2 fun z => n3 a z a ha rfl⟩) (fun i h => by rw [List.length_set]; exact li i (by simp [h]))
    refine ⟨fp', q1, fun a ha => ?_⟩
    rcases q2 a ha with z | z
    · exact (k1 a z).imp id fun z => by rw [ef]; simp [z]
    · exact .inr (by rw [ef]; simp [z])
  | .pt i j :: ws, us, t :: ts, fq, fa, ρ, S, ⟨u, r, eu, hu, ra⟩, ⟨u', r', f1, f2, eu', h1, h2, ef⟩, nd, ow, li => by
    rw [eu] at eu'
    cases eu'
    rw [ef] at nd
    obtain ⟨n1, n2, n3⟩ := List.nodup_append.mp nd
    unfold giveA
    split
    · rename_i xs et
      obtain ⟨a, vs, q1, q2, q3⟩ := hu
      obtain ⟨v, f0, fL, fR, g1, g2, g3, g4, _⟩ := S.rs.get et
      obtain ⟨a', vs', rfl, w2, w3⟩ := g2
      rw [q1] at g1
      cases g1
      rw [q2.1] at w2
      cases w2.1
      have hj : j < xs.length := by
        have e1 := w3.len
        have e2 := (List.getElem?_eq_some_iff.mp q3).1
        omega
      obtain ⟨v', f3, fl, fr, x1, x2, x3, x4⟩ := w3.part (List.getElem?_eq_getElem hj)
      rw [q3] at x1
      cases x1
      have st : Stb O H O H := .less fun a q => q
      have RT' : RT c O H (.tl (xs.set j t)) (.ref a) (fl ++ f1 ++ fr) := ⟨a, vs, rfl, q2, x4 st (fun _ _ => rfl) h1⟩
      have RS' := g4 (O' := O) (H' := H) st (fun _ _ => rfl) RT'
      rw [set_same q1] at RS'
      have ndq := S.nd
      rw [g3, x3] at ndq
      have own1 : ∀ b ∈ f1, O b ∧ b ∉ fq := fun b hb => ow b (by rw [ef]; simp [hb])
      have inq : ∀ b, b ∈ fL ∨ b ∈ fl ∨ b ∈ fr ∨ b ∈ fR → b ∈ fq := fun b hb => by
        rw [g3, x3]
        simp only [List.mem_append]
        rcases hb with z | z | z | z <;> simp [z]
      have nd2 : (fL ++ (fl ++ f1 ++ fr) ++ fR).Nodup := by
        simp only [List.nodup_append, List.mem_append] at ndq ⊢
        obtain ⟨⟨m1, ⟨⟨m2, m3, m4⟩, m5, m6⟩, m7⟩, m8, m9⟩ := ndq
        refine ⟨⟨m1, ⟨⟨m2, n1, fun a ha b hb e => (own1 b hb).2 (inq b (.inr (.inl (e ▸ ha))))⟩, m5, fun a ha b hb e => ?_⟩, fun a ha b hb e => ?_⟩, m8, fun a ha b hb e => ?_⟩
        · rcases ha with z | z
          · exact m6 a (.inl z) b hb e
          · exact (own1 a z).2 (inq a (.inr (.inr (.inl (e ▸ hb)))))
        · rcases hb with (z | z) | z
          · exact m7 a ha b (.inl (.inl z)) e
          · exact (own1 b z).2 (inq b (.inl (e ▸ ha)))
          · exact m7 a ha b (.inr z) e
        · rcases ha with z | ((z | z) | z)
          · exact m9 a (.inl z) b hb e
          · exact m9 a (.inr (.inl (.inl z))) b hb e
          · exact (own1 a z).2 (inq a (.inr (.inr (.inr (e ▸ hb)))))
          · exact m9 a (.inr (.inr z)) b hb e
      have k1 : ∀ b ∈ fL ++ (fl ++ f1 ++ fr) ++ fR, b ∈ fq ∨ b ∈ f1 := fun b hb => by
        simp only [List.mem_append] at hb
        rcases hb with (z | (z | z) | z) | z
        · exact .inl (inq b (.inl z))
        · exact .inl (inq b (.inr (.inl z)))
        · exact .inr z
        · exact .inl (inq b (.inr (.inr (.inl z))))
        · exact .inl (inq b (.inr (.inr (.inr z))))
      have S1 : SR c O (fL ++ (fl ++ f1 ++ fr) ++ fR) H (ρ.set i (some (.tl (xs.set j t)))) σ := ⟨RS', nd2, fun b hb => (k1 b hb).elim (S.ow b) fun z => (own1 b z).1, S.tr, S.tb, S.px⟩
      obtain ⟨fp', q4, q5⟩ := give_ok S1 ra h2 n2 (fun a ha => ⟨(ow a (by rw [ef]; simp [ha])).1, fun z => (k1 a z).elim (ow a (by rw [ef]; simp [ha])).2 fun z => n3 a z a ha rfl⟩) (fun i h => by rw [List.length_set]; exact li i (by simp [h]))
      refine ⟨fp', q4, fun b hb => ?_⟩
      rcases q5 b hb with z | z
      · exact (k1 b z).imp id fun z => by rw [ef]; simp [z]
      · exact .inr (by rw [ef]; simp [z])
    · obtain ⟨fp', q1, q2⟩ := give_ok S ra h2 n2 (fun a ha => ow a (by rw [ef]; simp [ha])) (fun i h => li i (by simp [h]))
      exact ⟨fp', q1, fun a ha => (q2 a ha).imp id fun z => by rw [ef]; simp [z]⟩
/-- behind a callee that was lent fa -/
theorem lent_back {ws : List Val} {us : List V} {ts' : List T} (S : SR c O1 fp1 H1 ρ1 σ) (li : ∀ i, Val.al i ∈ ws → i < ρ'.length) (ra : RA c O1 H1 σ ws us) (Sq : SR c O1 fq H1 ρ' σ) (dj : ∀ a ∈ fa, a ∈ fp1 ∧ a ∉ fq) (sub : ∀ a ∈ fq, a ∈ fp1)
    (r : RTs c O' H' ts' us fp') (nd : fp'.Nodup) (ow : ∀ b ∈ fp', O' b) (tr : ∀ b, O' b → nT (H' b)) (tb : Tabs c H') (E : Ext fa O1 H1 fp' O' H') :
    ∃ fp2, SR c O' fp2 H' (giveA ρ' ws ts') σ ∧ Ext fp1 O1 H1 fp2 O' H' ∧ (∀ a ∈ fp2, a ∈ fq ∨ a ∈ fp') := by
  have nfa : ∀ a ∈ fq, a ∉ fa := fun a ha q => (dj a q).2 ha
  have S2 : SR c O' fq H' ρ' σ := ⟨Sq.rs.stb (E.stb fun a ha => S.ow a (dj a ha).1) fun a ha => E.kp a (Sq.tr a (Sq.ow a ha)) (nfa a ha), Sq.nd, fun a ha => E.ok a (Sq.ow a ha) (nfa a ha), tr, tb, fun p hp => (Sq.px p hp).stb (E.stb fun a ha => S.ow a (dj a ha).1)⟩
  obtain ⟨fp2, S3, k3⟩ := give_ok S2 (ra.stb (E.stb fun a ha => S.ow a (dj a ha).1)) r nd (fun a ha => ⟨ow a ha, fun q => (E.fn a ha).elim (nfa a q) (Sq.tr a (Sq.ow a q)).ne⟩) li
  refine ⟨fp2, S3, ⟨fun b h n => E.kp b h fun q => n (dj b q).1, E.th, fun b h n => E.ok b h fun q => n (dj b q).1, E.on, fun a ha => ?_⟩, k3⟩
  rcases k3 a ha with q | q
  · exact .inl (sub a q)
  · exact (E.fn a q).imp (fun z => (dj a z).1) id
def kCallB (F : FF) (ws : List Val) : FE := fun ρ => match takeA ρ ws with
  | some (ts, ρ1) => match F ts with
    | some (.ret w ts') => some (.val (toVal w) (giveA ρ1 ws ts'))
    | some (.exc x ts') => some (.exc x (giveA ρ1 ws ts'))
    | none => none
  | none => none
theorem Post.callG {Q : V → Hp → Prop} {ws : List Val} {us : List V} {g1 : List Addr} (hn : us.length = n) (S0 : ∀ b, O b → nT (H b)) (S : SR c O1 fp1 H1 ρ1 σ) (E : Ext fp O H fp1 O1 H1) (rx : RVs c O1 fp1 H1 ρ1 σ ws us g1) (F1 : Fr g1 fp H)
    (h : Post (RV c) c W false O fp H σ (kCallB F ws ρ1) Q) : spV c n F us H1 Q (WE W σ) := by
  unfold kCallB at h
  cases et : takeA ρ1 ws with
  | none => simp only [et] at h; exact h.elim
  | some q =>
    obtain ⟨ts, ρ2⟩ := q
    simp only [et] at h
    have ra := rx.ra (O2 := fun a => O1 a ∧ a ∉ g1) (fun a q => q.1) (fun a ha q => q.2 ha)
    have S2 := S.less fun a ha => (rx.own a ha).2
    have E2 := E.less S0 F1
    obtain ⟨fa, fq, t1, t2, t3, t4, t5⟩ := take_ok S2 ra et
    obtain ⟨l1, l2⟩ := take_len et
    have li : ∀ i, Val.al i ∈ ws → i < ρ2.length := fun i h => by rw [l1]; exact l2 i h
    refine ⟨hn, _, fa, ts, t1, t3, fun a ha => S2.ow a (t4 a ha).1, S2.tr, S2.tb, ?_⟩
    cases ea : F ts with
    | none => simp only [ea] at h; exact h.elim
    | some a =>
      cases a with
      | ret w ts' =>
        simp only [ea] at h
        intro u H' O' fp' g r nd ow tr tb Eq R' Fg
        obtain ⟨nd1, nd2, nd3⟩ := List.nodup_append.mp nd
        obtain ⟨fp3, S3, E3, k3⟩ := lent_back S2 li ra t2 t4 t5 r nd1 (fun b hb => ow b (by simp [hb])) tr tb Eq
        refine h u H' O' fp3 g S3 (E2.trans E3 S0) (fun q => (by cases q)) (R'.val nd2 fun b hb => ⟨ow b (by simp [hb]), fun q => ?_⟩) (fresh_of E2 fun a ha => (Fg a ha).imp id fun z => (t4 a z).1)
        rcases k3 b q with z | z
        · rcases Fg b hb with y | y
          · exact (t2.tr b (t2.ow b z)).ne y
          · exact (t4 b y).2 z
        · exact nd3 b z b hb rfl
      | exc x ts' =>
        simp only [ea] at h
        intro cls d H' O' fp' r nd ow tr tb Eq R'
        obtain ⟨fp3, S3, E3, k3⟩ := lent_back S2 li ra t2 t4 t5 r nd ow tr tb Eq
        exact h cls d H' O' fp3 S3 (E2.trans E3 S0) R'
def vCallG (n : Nat) (F : FF) (fs : FG (List Val)) : FE := bnd fs fun ws => if ws.length = n then kCallB F ws else fun _ => none
theorem ve_callG (Fk : FnOk X.prog X.w X.K X.mg X.base (L2.CX X.prog X.w) k f fd ps (spV c.toVb n F)) (hr : Room k X.A) (hg : Gl X x) (hm : X.mg x = some (.ref f)) (hk : PySem.W.keepIn X.K (.ref f) = true) (hb : Binds X.K fd ps []) (tk : Takes X W)
    (ha : VA c X W false (e :: es) fs) (hdb : (x == ("__debug__" : Str)) = false := by decide) (he : starEach (e :: es) X.env = (false, eval e X.env) :: starEach es X.env := by rfl) (hpl : (backTo pos (starEach es X.env)).any (·.1) = false := by rfl) :
    VE c X W false (.Call (.Name x p) (e :: es) [] pos) (vCallG n F fs) := by
  obtain ⟨ts, ps', os⟩ := ha
  refine ⟨_, pe_callS Fk hr hg hm hk hb (fun σ => passAt tk σ) ps' hdb he hpl, fun O fp H ρ σ Q S h => os.thn S.tr S .refl (fun _ => .refl) h (fun q => q) fun ws ρ1 us H1 O1 fp1 g1 _ S1 E1 _ I1 R1 F1 h1 => ?_⟩
  obtain ⟨hl, h2⟩ := ite_len h1
  exact Post.callG (R1.len.trans hl) S.tr S1 E1 R1 F1 h2
/-- the class of a receiver -/
def isObjB (nm m : Str) (x : Val) (ρ : Env) : Bool := match x with
  | .fr (.obj n fs) => decide (n = nm) && (fs.lookup m).isNone
  | .nw (.obj n fs) => decide (n = nm) && (fs.lookup m).isNone
  | .al i => match ρ[i]? with
    | some (some (.obj n fs)) => decide (n = nm) && (fs.lookup m).isNone
    | _ => false
  | _ => false
theorem RTf.look : ∀ {fs : List (Str × T)} {vs : List (Str × V)} {fq : List Addr} {n : Str}, RTf c O H fs vs fq → fs.lookup n = none → vs.lookup n = none
  | [], _, _, n, h, _ => by rw [h.1]; rfl
  | (k, d) :: fs, _, _, n, ⟨v, r, f1, f2, e, h, t, _⟩, q => by
    subst e
    simp only [List.lookup] at q ⊢
    cases z : n == k with
    | true => rw [z] at q; cases q
    | false => rw [z] at q; exact RTf.look t q
theorem isObjB_ok {nm : Str} {w : Val} {u : V} {g : List Addr} (h : isObjB nm m w ρ = true) (R : RV c O fp H ρ σ w u g) (S : SR c O fp H ρ σ) : ∃ a dx fs, u = .ref a ∧ H a = some (.ins (c.cl nm) dx fs) ∧ fs.lookup m = none := by
  unfold isObjB at h
  split at h
  · rw [Bool.and_eq_true] at h
    obtain rfl := of_decide_eq_true h.1
    obtain ⟨a, dx, vs, eu, ho, rf⟩ := R.1
    exact ⟨a, dx, vs, eu, ho.1, rf.look.2 (by simpa using h.2)⟩
  · rw [Bool.and_eq_true] at h
    obtain rfl := of_decide_eq_true h.1
    obtain ⟨a, dx, vs, fq, eu, ho, rf, _⟩ := R.1
    exact ⟨a, dx, vs, eu, ho, rf.look (by simpa using h.2)⟩
  · split at h
    · rename_i q
      rw [Bool.and_eq_true] at h
      obtain rfl := of_decide_eq_true h.1
      obtain ⟨v, f, fl, fr, h1, h2, _⟩ := S.rs.get q
      rw [R.1] at h1
      cases h1
      obtain ⟨a, dx, vs, fq, eu, ho, rf, _⟩ := h2
      exact ⟨a, dx, vs, eu, ho, rf.look (by simpa using h.2)⟩
    · cases h
  · cases h
def vMethG (nm m : Str) (n : Nat) (F : FF) (fo : FE) (fs : FG (List Val)) : FE := bnd fo fun x ρ => if isObjB nm m x ρ then bnd fs (fun ws => if (x :: ws).length = n then kCallB F (x :: ws) else fun _ => none) ρ else none
theorem ve_methG {nm : Str} {pl : Sem Bool} (hK : X.K = c.K) (ho : VE c X W false o fo) (cl : Cls c.K (c.cl nm)) (hm : Meth c.K (c.cl nm) m f) (Fk : FnOk X.prog X.w X.K X.mg X.base (L2.CX X.prog X.w) k f fd ps (spV c.toVb n F)) (hr : Room k X.A) (hb : Binds X.K fd ps []) (tk : Takes X W)
    (ha : VA c X W false (e :: es) fs) (hst : starEach (e :: es) X.env = (false, eval e X.env) :: starEach es X.env := by rfl) (hpl : (backTo pos (starEach es X.env)).any (·.1) = false := by rfl)
    (ht : eval (.Call (.Attribute o m apos) (e :: es) [] pos) X.env = (do
      let ov ← eval o X.env
      standAt apos.atName
      let (f, first) ← holding [ov] (getMethod ov m pl)
      callWith pos f first (backTo pos (starEach (e :: es) X.env)) (backToKw pos (keywordEach [] X.env))) := by rfl) :
    VE c X W false (.Call (.Attribute o m apos) (e :: es) [] pos) (vMethG nm m n F fo fs) := by
  obtain ⟨to, po, oo⟩ := ho
  obtain ⟨ts, ps', os⟩ := ha
  refine ⟨_, pe_methS po (by rw [hK]; exact cl) (by rw [hK]; exact hm) Fk hr hb (fun σ => passAt tk σ) ps' hst hpl ht, fun O fp H ρ σ Q S h => oo.thn S.tr S .refl (fun _ => .refl) h (fun q => q) fun w ρ1 u H1 O1 fp1 g1 _ S1 E1 _ I1 R1 F1 h1 => ?_⟩
  by_cases hi : isObjB nm m w ρ1 = true
  · simp only [if_pos hi] at h1
    obtain ⟨a, dx, vs, eu, hob, hl⟩ := isObjB_ok hi R1 S1
    refine ⟨a, dx, vs, eu, hob, hl, os.thn S.tr S1 E1 I1 h1 (fun q => q) fun ws ρ2 us H2 O2 fp2 g2 _ S2 E2 E12 I2 R2 F2 h2 => ?_⟩
    obtain ⟨hl, h2⟩ := ite_len (ws := w :: ws) h2
    refine Post.callG (ws := w :: ws) (g1 := g1 ++ g2) (by rw [← hl]; simp [R2.len]) S.tr S2 E2 ⟨u, us, g1, g2, rfl, R1.per S1 E12, R2, rfl, fun a h1 h2 => (F2 a h2).elim (R1.trk a h1).ne (R1.own a h1).2⟩ (fun a ha => ?_) h2
    rcases List.mem_append.mp ha with q | q
    · exact F1 a q
    · exact fresh_of E1 F2 a q
  · simp only [if_neg hi] at h1
    exact h1.elim
theorem ve_methG0 {nm : Str} {pl : Sem Bool} (hK : X.K = c.K) (ho : VE c X W false o fo) (cl : Cls c.K (c.cl nm)) (hm : Meth c.K (c.cl nm) m f) (Fk : FnOk X.prog X.w X.K X.mg X.base (L2.CX X.prog X.w) k f fd ps (spV c.toVb n F)) (hr : Room k X.A) (hb : Binds X.K fd ps []) (tk : Takes X W)
    (ht : eval (.Call (.Attribute o m apos) [] [] pos) X.env = (do
      let ov ← eval o X.env
      standAt apos.atName
      let (f, first) ← holding [ov] (getMethod ov m pl)
      callWith pos f first (backTo pos (starEach [] X.env)) (backToKw pos (keywordEach [] X.env))) := by rfl) :
    VE c X W false (.Call (.Attribute o m apos) [] [] pos) (vMethG nm m n F fo vNil) := by
  obtain ⟨to, po, oo⟩ := ho
  refine ⟨_, pe_methS0 po (by rw [hK]; exact cl) (by rw [hK]; exact hm) Fk hr hb (fun σ => passAt tk σ) ht, fun O fp H ρ σ Q S h => oo.thn S.tr S .refl (fun _ => .refl) h (fun q => q) fun w ρ1 u H1 O1 fp1 g1 _ S1 E1 _ I1 R1 F1 h1 => ?_⟩
  by_cases hi : isObjB nm m w ρ1 = true
  · simp only [if_pos hi] at h1
    obtain ⟨a, dx, vs, eu, hob, hl⟩ := isObjB_ok hi R1 S1
    refine ⟨a, dx, vs, eu, hob, hl, ?_⟩
    have h1 : Post (RV c) c W false O fp H σ ((if ([w] : List Val).length = n then kCallB F [w] else fun _ => none) ρ1) Q := h1
    obtain ⟨hl, h2⟩ := ite_len (ws := [w]) h1
    exact Post.callG (ws := [w]) (g1 := g1 ++ []) (by rw [← hl]; simp) S.tr S1 E1 ⟨u, [], g1, [], rfl, R1, ⟨rfl, rfl⟩, rfl, fun a _ q => (by cases q)⟩ (by simpa using F1) h2
  · simp only [if_neg hi] at h1
    exact h1.elim
/-- C(..), what is passed may be lent -/
def kMakeB (nm : Str) (F : FF) (ws : List Val) : FE := fun ρ => match takeA ρ ws with
  | some (ts, ρ1) => match F (.obj nm [] :: ts) with
    | some (.ret (.fr .non) (t :: ts')) => if t.isOwn then some (.val (.nw t) (giveA ρ1 ws ts')) else none
    | some (.exc x (_ :: ts')) => some (.exc x (giveA ρ1 ws ts'))
    | _ => none
  | none => none
def vMakeG (nm : Str) (n : Nat) (F : FF) (fs : FG (List Val)) : FE := bnd fs fun ws => if ws.length + 1 = n then kMakeB nm F ws else fun _ => none
theorem ve_makeG {nm : Str} (hK : X.K = c.K) (M : Mk c.K (c.cl nm) f) (Fk : FnOk X.prog X.w X.K X.mg X.base (L2.CX X.prog X.w) k f fd ps (spV c.toVb n F)) (hr : Room (k + 1) X.A) (hg : Gl X x) (hm : X.mg x = some (.ref (c.cl nm))) (hb : Binds X.K fd ps []) (tk : Takes X W)
    (ha : VA c X W false (e :: es) fs) (hdb : (x == ("__debug__" : Str)) = false := by decide) (he : starEach (e :: es) X.env = (false, eval e X.env) :: starEach es X.env := by rfl) (hpl : (backTo pos (starEach es X.env)).any (·.1) = false := by rfl) :
    VE c X W false (.Call (.Name x p) (e :: es) [] pos) (vMakeG nm n F fs) := by
  obtain ⟨ts, ps', os⟩ := ha
  refine ⟨_, pe_makeS (by rw [hK]; exact M) Fk hr hg hm hb (fun σ => passAt tk σ) ps' hdb he hpl, fun O fp H ρ σ Q S h => os.thn S.tr S .refl (fun _ => .refl) h (fun q => q) fun ws ρ1 us H1 O1 fp1 g1 _ S1 E1 _ I1 R1 F1 h1 => ?_⟩
  by_cases hl : ws.length + 1 = n
  case neg => simp only [if_neg hl] at h1; exact h1.elim
  simp only [if_pos hl] at h1
  intro y dx hy hdx ne
  have kp2 : ∀ a, H1 a ≠ none → upd (upd H1 dx (.own y)) y (.ins (c.cl nm) dx []) a = H1 a := fun a h => by rw [upd_ne (fun q => h (by rw [q]; exact hy)), upd_ne (fun q => h (by rw [q]; exact hdx))]
  have hy2 : upd (upd H1 dx (.own y)) y (.ins (c.cl nm) dx []) y = some (.ins (c.cl nm) dx []) := upd_same
  generalize upd (upd H1 dx (.own y)) y (.ins (c.cl nm) dx []) = H2 at kp2 hy2
  unfold kMakeB at h1
  cases et : takeA ρ1 ws with
  | none => simp only [et] at h1; exact h1.elim
  | some q =>
    obtain ⟨ts, ρ2⟩ := q
    simp only [et] at h1
    have S2 := S1.less fun a ha => (R1.own a ha).2
    have E2 := E1.less S.tr F1
    have ra := R1.ra (O2 := fun a => O1 a ∧ a ∉ g1) (fun a q => q.1) (fun a ha q => q.2 ha)
    have st : Stb (fun a => O1 a ∧ a ∉ g1) H1 (fun a => (O1 a ∧ a ∉ g1) ∨ a = y) H2 := .of (fun a _ h => kp2 a h.ne) fun a h => h.imp id fun q => by rw [q]; exact hy
    have raY : ∀ {ws : List Val} {us : List V}, RA c (fun a => O1 a ∧ a ∉ g1) H1 σ ws us → RA c (fun a => (O1 a ∧ a ∉ g1) ∨ a = y) H2 σ ws us := by
      intro ws
      induction ws with
      | nil => exact fun h => h
      | cons w ws ih =>
        rintro us ⟨u, r, e, h, t⟩
        refine ⟨u, r, e, ?_, ih t⟩
        cases w with
        | fr d => exact h.stb st
        | nw t => exact h.stb st
        | al i => exact h
        | pt i j => exact (show RA c _ _ σ [.pt i j] [u] from ⟨u, [], rfl, h, rfl⟩).stb st |>.elim fun _ ⟨_, e, q, _⟩ => by cases e; exact q
    have S3 : SR c (fun a => (O1 a ∧ a ∉ g1) ∨ a = y) fp1 H2 ρ1 σ := ⟨S2.rs.stb st fun a ha => kp2 a (S2.tr a (S2.ow a ha)).ne, S2.nd, fun a ha => .inl (S2.ow a ha), fun a h => h.elim (fun q => by rw [kp2 a (S2.tr a q).ne]; exact S2.tr a q) fun q => by rw [q]; exact .of hy2, fun P hP => by
        obtain ⟨ps, e, k⟩ := S2.tb P hP
        exact ⟨ps, by rw [kp2 P (by rw [e]; simp)]; exact e, k⟩, fun p hp => (S2.px p hp).stb st⟩
    have E3 : Ext fp1 (fun a => O1 a ∧ a ∉ g1) H1 fp1 (fun a => (O1 a ∧ a ∉ g1) ∨ a = y) H2 := ⟨fun a h _ => kp2 a h.ne, fun a h => by rw [kp2 a h]; exact h, fun a h _ => .inl h, fun a h => h.imp id fun q => by rw [q]; exact hy, fun a h => .inl h⟩
    have E13 := E2.trans E3 S.tr
    have ra3 := raY ra
    obtain ⟨fa, fq, t1, t2, t3, t4, t5⟩ := take_ok S3 ra3 et
    obtain ⟨l1, l2⟩ := take_len et
    have li : ∀ i, Val.al i ∈ ws → i < ρ2.length := fun i h => by rw [l1]; exact l2 i h
    have ny : ∀ a, H1 a ≠ none → a ≠ y := fun a h q => h (by rw [q]; exact hy)
    have yfp : y ∉ fp1 := fun q => (S1.tr y (S1.ow y q)).ne hy
    have yfa : y ∉ fa := fun q => yfp (t4 y q).1
    have yfq : y ∉ fq := fun q => yfp (t5 y q)
    refine ⟨by rw [← hl]; simp [R1.len], fun a => (O1 a ∧ a ∉ g1) ∨ a = y, y :: fa, .obj nm [] :: ts, ⟨.ref y, us, [y], fa, rfl, ⟨y, dx, [], [], rfl, hy2, ⟨rfl, rfl⟩, rfl⟩, t1, rfl⟩, List.nodup_cons.mpr ⟨yfa, t3⟩, fun a ha => ?_, S3.tr, S3.tb, ?_⟩
    · rcases List.mem_cons.mp ha with q | q
      · exact .inr q
      · exact S3.ow a (t4 a q).1
    -- behind the callee: y's own parts aside
    have S4 : SR c (fun a => (O1 a ∧ a ∉ g1) ∨ a = y) fp1 H2 ρ1 σ := S3
    have back : ∀ {ts' : List T} {fr O' H'}, RTs c O' H' ts' us fr → fr.Nodup → (∀ b ∈ fr, O' b ∧ (b ∈ y :: fa ∨ H2 b = none)) → (∀ b, O' b → nT (H' b)) → Tabs c H' → (∀ b, nT (H2 b) → b ≠ y → b ∉ fa → H' b = H2 b) → (∀ b, H2 b ≠ none → H' b ≠ none) → (∀ b, O1 b ∧ b ∉ g1 → b ∉ fa → O' b) → (∀ b, O' b → ((O1 b ∧ b ∉ g1) ∨ b = y) ∨ H2 b = none) →
        ∃ fp2, SR c O' fp2 H' (giveA ρ2 ws ts') σ ∧ Ext fp1 (fun a => O1 a ∧ a ∉ g1) H1 fp2 O' H' ∧ ∀ a ∈ fp2, a ∈ fq ∨ a ∈ fr := by
      intro ts' fr O' H' r nd ow tr tb kp th ok on
      have nfa : ∀ a ∈ fq, a ∉ fa := fun a ha q => (t4 a q).2 ha
      have kpq : ∀ a ∈ fq, H' a = H2 a := fun a ha => kp a (t2.tr a (t2.ow a ha)) (fun q => yfq (q ▸ ha)) (nfa a ha)
      have Sq : SR c O' fq H' ρ2 σ := by
        refine ⟨t2.rs.stb ⟨fun a n h => .of (kp a h (fun q => n (.inr q)) fun q => n (S3.ow a (t4 a q).1)), fun a h => on a h⟩ kpq, t2.nd, fun a ha => ok a ?_ (nfa a ha), tr, tb, fun p hp => (t2.px p hp).stb ⟨fun a n h => .of (kp a h (fun q => n (.inr q)) fun q => n (S3.ow a (t4 a q).1)), fun a h => on a h⟩⟩
        rcases t2.ow a ha with q | q
        · exact q
        · exact absurd ha (q ▸ yfq)
      obtain ⟨fp2, S5, k5⟩ := give_ok Sq (ra3.stb ⟨fun a n h => .of (kp a h (fun q => n (.inr q)) fun q => n (S3.ow a (t4 a q).1)), fun a h => on a h⟩) r nd (fun a ha => ⟨(ow a ha).1, fun q => (ow a ha).2.elim (fun z => (List.mem_cons.mp z).elim (fun z => yfq (z ▸ q)) (nfa a q)) (t2.tr a (t2.ow a q)).ne⟩) li
      have n1 : ∀ b, nT (H1 b) → nT (H2 b) := fun b h => by rw [kp2 b h.ne]; exact h
      refine ⟨fp2, S5, ⟨fun b h n => (kp b (n1 b h) (ny b h.ne) fun q => n (t4 b q).1).trans (kp2 b h.ne), fun b h => th b (by rw [kp2 b h]; exact h), fun b h n => ok b h fun q => n (t4 b q).1, fun b h => ?_, fun a ha => ?_⟩, k5⟩
      · rcases on b h with (q | q) | q
        · exact .inl q
        · exact .inr (q ▸ hy)
        · exact .inr (Classical.byContradiction fun z => by rw [kp2 b z] at q; exact z q)
      · rcases k5 a ha with q | q
        · exact .inl (t5 a q)
        · rcases (ow a q).2 with z | z
          · exact (List.mem_cons.mp z).elim (fun z => .inr (z ▸ hy)) fun z => .inl (t4 a z).1
          · exact .inr (Classical.byContradiction fun y => by rw [kp2 a y] at z; exact y z)
    cases ea : F (.obj nm [] :: ts) with
    | none => simp only [ea] at h1; exact h1.elim
    | some a =>
      cases a with
      | exc x ts' =>
        cases ts' with
        | nil => simp only [ea] at h1; exact h1.elim
        | cons t0 ts' =>
        simp only [ea] at h1
        intro cls d H' O' fr r nd ow tr tb Eq R'
        obtain ⟨v, vr, f1, f2, ev, r1, r2, eq⟩ := r
        cases ev
        rw [eq] at nd
        obtain ⟨nd1, nd2, nd3⟩ := List.nodup_append.mp nd
        obtain ⟨fp5, S5, E5, k5⟩ := back r2 nd2 (fun b hb => ⟨ow b (by rw [eq]; simp [hb]), Eq.fn b (by rw [eq]; simp [hb])⟩) tr tb (fun b h1 h2 h3 => Eq.kp b h1 fun q => (List.mem_cons.mp q).elim h2 h3) Eq.th (fun b h1 h2 => Eq.ok b (.inl h1) fun q => (List.mem_cons.mp q).elim (fun z => (S1.tr b h1.1).ne (z ▸ hy)) h2) Eq.on
        exact h1 cls d H' O' fp5 S5 (E2.trans E5 S.tr) R'
      | ret w ts' =>
        cases w with
        | fr d =>
          cases d with
          | non =>
            cases ts' with
            | nil => simp only [ea] at h1; exact h1.elim
            | cons t0 ts' =>
            simp only [ea] at h1
            by_cases ho : t0.isOwn = true
            case neg => rw [if_neg ho] at h1; exact h1.elim
            rw [if_pos ho] at h1
            intro u H' O' fr g r nd ow tr tb Eq R' Fg
            obtain ⟨v, vr, f1, f2, ev, r1, r2, eq⟩ := r
            cases ev
            rw [eq] at nd
            obtain ⟨nd0, _, _⟩ := List.nodup_append.mp nd
            obtain ⟨nd1, nd2, nd3⟩ := List.nodup_append.mp nd0
            obtain ⟨fp5, S5, E5, k5⟩ := back r2 nd2 (fun b hb => ⟨ow b (by rw [eq]; simp [hb]), Eq.fn b (by rw [eq]; simp [hb])⟩) tr tb (fun b h1 h2 h3 => Eq.kp b h1 fun q => (List.mem_cons.mp q).elim h2 h3) Eq.th (fun b h1 h2 => Eq.ok b (.inl h1) fun q => (List.mem_cons.mp q).elim (fun z => (S1.tr b h1.1).ne (z ▸ hy)) h2) Eq.on
            have fr1 : ∀ a ∈ f1, a ∈ fa ∨ H1 a = none := fun a ha => by
              rcases Eq.fn a (by rw [eq]; simp [ha]) with q | q
              · exact (List.mem_cons.mp q).elim (fun z => .inr (z ▸ hy)) .inl
              · exact .inr (Classical.byContradiction fun z => by rw [kp2 a z] at q; exact z q)
            refine ⟨R'.1, h1 _ H' O' fp5 f1 S5 (E2.trans E5 S.tr) (fun q => (by cases q)) ⟨r1, nd1, fun a ha => ⟨ow a (by rw [eq]; simp [ha]), fun q => ?_⟩⟩ fun a ha => ?_⟩
            · rcases k5 a q with z | z
              · rcases fr1 a ha with y | y
                · exact (t4 a y).2 z
                · exact (S1.tr a (S1.ow a (t5 a z))).ne y
              · exact nd3 a ha a z rfl
            · rcases fr1 a ha with z | z
              · exact (E1.fn a (t4 a z).1).symm
              · exact .inl (Classical.byContradiction fun y => E1.th a y z)
          | _ => simp only [ea] at h1; exact h1.elim
        | _ => simp only [ea] at h1; exact h1.elim
end
end Vl

namespace Vl
open PySem PySem.Spec PyProof.Rows L2
section
variable {c : Vc} {X : Cx} {W : WX} {b : Bool} {bor vs : List Nat} {O O1 O2 O' : Addr → Prop} {fp fp1 fp2 fp' fa fq : List Addr} {H H1 H2 H' : Hp} {ρ ρ1 ρ2 ρ' : Env} {σ σ1 σ' : L2.St} {k i : Nat} {α β : Type}
variable {e o : Expr} {es : List Expr} {f : FS} {pos pos' apos p p0 p1 p2 : Pos} {x n : Str} {st : List Stmt}
/-! ### raise X('text') -/
def sRaise (n : Str) : FS := fun ρ => some (.exc ⟨n, []⟩ ρ)
theorem vs_raise {m : Str} {j : Nat} {bmB : List Value} {B newId initId : String} (nm : Str) (hK : X.K = c.K) (hc : X.calm = true) (tk : Takes X W) (F : ExcBaseFacts B newId initId bmB) (q : PySem.W.excIn c.K (c.cl nm) bmB newId = true) (gC : X.mg x = some (.ref (c.cl nm)))
    (kC : PySem.W.keepIn c.K (.ref (c.cl nm)) = true) (r1 : PySem.W.subIn c.K (.ref (c.cl nm)) (.type "BaseException") = some true) (r2 : PySem.W.typeIn c.K (.ref (c.cl nm)) = some (.type "type")) (hg : Gl X x)
    (hdb : (x == ("__debug__" : Str)) = false := by decide) : VS c X W bor (.Raise (some (.Call (.Name x p) [.Constant (.str m) j p2] [] pos)) none pos') (sRaise nm) :=
  ⟨_, ps_raise hc tk (pmk_own F (by rw [hK]; exact q) gC (by rw [hK]; exact kC) (raises_own (by rw [hK]; exact r1) (by rw [hK]; exact r2)) hg hdb), fun O fp H ρ σ D S h => h (.ref (c.cl nm)) none σ H O fp S .refl .refl ⟨rfl, rfl⟩⟩

/-! ### try: .. except X as n: .. -/
def cnS (c : Vc) (W : WX) (bor : List Nat) (f : FS) : TS := fun D σ H => ∃ O fp ρ, SR c O fp H ρ σ ∧ PostS c W bor O fp H σ (f ρ) D
theorem VSs.cn (h : VSs c X W bor st f) : PSs X st (cnS c W bor f) := by
  obtain ⟨t, p, o⟩ := h
  exact ⟨fun pins s σ H D I ⟨O, fp, ρ, S, q⟩ => p.run pins s σ H D I (o O fp H ρ σ D S q)⟩
/-- behind the suite the name is gone -/
def endH (i : Nat) : Option OutS → Option OutS
  | some (.nx ρ) => some (.nx (ρ.set i none))
  | some (.brk ρ) => some (.brk (ρ.set i none))
  | some (.cnt ρ) => some (.cnt (ρ.set i none))
  | some (.ret w ρ) => some (.ret w ρ)
  | _ => none
def sTry (i : Nat) (m : Str → Option Bool) (f : FS) (h : Exn → FS) : FS := fun ρ => match f ρ with
  | some (.exc x ρ') => match m x.n with
    | some true => if i < ρ'.length then endH i (h x (ρ'.set i none)) else none
    | some false => some (.exc x ρ')
    | none => none
  | r => r
def tSu (c : Vc) (i : Nat) (bor : List Nat) (h : Exn → FS) (a : Addr) (cls : Value) (d : Option Addr) : TS := fun D σ H => ∃ (x : Exn) (q : Option (Addr × List (Str × V) × List (Str × Vl.D))) (O : Addr → Prop) (fp : List Addr) (ρ : Env), cls = .ref (c.cl x.n) ∧ (∀ l, q = some l → d = some l.1 ∧ l.2.2 = x.fs ∧ x.fs ≠ []) ∧ (q = none → x.fs = [] ∧ d = none) ∧
  SR ⟨c.toVb, ⟨i, a, q⟩ :: c.xs⟩ O fp H ρ σ ∧ PostS ⟨c.toVb, ⟨i, a, q⟩ :: c.xs⟩ W0 bor O fp H σ (h x ρ) D
theorem SR.drop {pn : Pin} (S : SR ⟨c.toVb, pn :: c.xs⟩ O fp H ρ σ) : SR c O fp H ρ σ := ⟨S.rs, S.nd, S.ow, S.tr, S.tb, fun p hp => S.px p (List.mem_cons_of_mem _ hp)⟩
theorem RV.xs {l : List Pin} {w : Val} {u : V} {g : List Addr} (R : RV ⟨c.toVb, l⟩ O fp H ρ σ w u g) : RV c O fp H ρ σ w u g := by
  cases w with
  | fr d => exact R
  | nw t => exact R
  | al i => exact R
  | pt i j => exact R
theorem RV.set {i : Nat} {s : Option V} {w : Val} {u : V} {g : List Addr} (R : RV c O fp H ρ σ w u g) : RV c O fp H ρ1 σ w u g := by
  cases w with
  | fr d => exact R
  | nw t => exact R
  | al i => exact R
  | pt i j => exact R
theorem vs_try {nm : Str} {cv : Value} {b₀ : Stmt} {suite body : List Stmt} {np : Pos} {m : Str → Option Bool} {h : Exn → FS} (hK : X.K = c.K) (hs : X.stack = X.env :: X.outer) (hf : X.env.frame = some X.env.locals) (hN : X.N.Nodup) (hi : X.N[i]? = some nm) (hln : X.env.kindOf nm = some .local) (hc : Names X x cv) (tk : Takes X W)
    (hm : ∀ n b, m n = some b → PySem.W.exmOne c.K (.ref (c.cl n)) cv = some b)
    (hb : ∀ (W' : WX) (pn : List (Addr × Obj)) (xe : Value → Shared → Prop), Takes (X.tr pn xe) W' → PassesOwn (model X.prog X.w) X.A X.env xe → VSs c (X.tr pn xe) W' bor body f)
    (hsu : ∀ (x : Exn) (a : Addr) (oe : Obj) (d : Option Addr) (q : Option (Addr × List (Str × V) × List (Str × Vl.D))) (pn : List (Addr × Obj)), Zc (.ref (c.cl x.n)) d oe → (∃ vs, oe.data = .fields vs) → (∀ l, q = some l → d = some l.1 ∧ l.2.2 = x.fs ∧ x.fs ≠ []) → (q = none → x.fs = [] ∧ d = none) →
      VSs ⟨c.toVb, ⟨i, a, q⟩ :: c.xs⟩ (X.suite a ((a, oe) :: pn)) W0 bor (b₀ :: suite) (h x))
    (hbi : i ∉ bor := by decide) (hxs : i ∉ c.xs.map (·.i) := by exact nmIn rfl) :
    VS c X W bor (.Try body [.ExceptHandler (some (.Name x np)) (some nm) (b₀ :: suite) pos'] [] [] pos) (sTry i m f h) := by
  refine ⟨_, ps_try_as (tb := fun W => cnS c W bor f) (ts := tSu c i bor h) (Wout := W) hs hf hN hi hln hc tk (fun W' pn xe t p => (hb W' pn xe t p).cn) (fun a oe cls d pn hz hd => ⟨fun pins s σ H D I q => ?_⟩), fun O fp H ρ σ D S q => ?_⟩
  · obtain ⟨x, q0, O, fp, ρ, rfl, h1, h2, S, P⟩ := q
    exact (hsu x a oe d q0 pn hz hd h1 h2).cn.run pins s σ H D I ⟨O, fp, ρ, S, P⟩
  · refine ⟨O, fp, ρ, S, ?_⟩
    unfold sTry at q
    revert q
    cases f ρ with
    | none => exact fun q => q
    | some o =>
      cases o with
      | nx ρ' => exact fun q => q
      | brk ρ' => exact fun q => q
      | cnt ρ' => exact fun q => q
      | ret w ρ' => exact fun q => q
      | exc x ρ' =>
        intro q cls d σ' H' O' fp' S' E' B' R
        obtain ⟨rfl, R⟩ := R
        cases em : m x.n with
        | none => simp only [em] at q; exact q.elim
        | some b =>
          cases b with
          | false =>
            simp only [em] at q
            exact ⟨false, by rw [hK]; exact hm _ _ em, fun z => (by cases z), fun _ => q _ d σ' H' O' fp' S' E' B' ⟨rfl, R⟩⟩
          | true =>
            simp only [em] at q
            by_cases hl : i < ρ'.length
            case neg => rw [if_neg hl] at q; exact q.elim
            rw [if_pos hl] at q
            refine ⟨true, by rw [hK]; exact hm _ _ em, fun _ a na => ?_, fun z => (by cases z)⟩
            obtain ⟨fp2, S2, k2⟩ := S'.del (s := some (.ref a)) hxs hl
            have hq : ∃ q0 : Option (Addr × List (Str × V) × List (Str × Vl.D)), (∀ l, q0 = some l → (d = some l.1 ∧ l.2.2 = x.fs ∧ x.fs ≠ []) ∧ (H' l.1 = some (.xd l.2.1) ∧ ¬ O' l.1) ∧ RDf c O' H' l.2.2 l.2.1) ∧ (q0 = none → x.fs = [] ∧ d = none) := by
              obtain ⟨xn, xf⟩ := x
              cases xf with
              | nil => exact ⟨none, fun l z => (by cases z), fun _ => ⟨rfl, R⟩⟩
              | cons p r =>
                obtain ⟨dd, vs, e1, e2, e3⟩ := R
                exact ⟨some (dd, vs, p :: r), fun l z => by cases z; exact ⟨⟨e1, rfl, List.cons_ne_nil _ _⟩, e2, e3⟩, fun z => (by cases z)⟩
            obtain ⟨q0, hq1, hq2⟩ := hq
            have S3 : SR ⟨c.toVb, ⟨i, a, q0⟩ :: c.xs⟩ O' fp2 H' (ρ'.set i none) (σ'.set i (some (.ref a))) := ⟨S2.rs, S2.nd, S2.ow, S2.tr, S2.tb, fun p hp => by
              rcases List.mem_cons.mp hp with z | z
              · subst z
                refine ⟨List.getElem?_set_self (by rw [S'.rs.len]; exact hl), fun l e => (hq1 l e).2⟩
              · exact S2.px p z⟩
            refine ⟨x, q0, O', fp2, ρ'.set i none, rfl, fun l e => (hq1 l e).1, hq2, S3, ?_⟩
            have B2 : Bk bor σ (σ'.set i (some (.ref a))) := B'.trans (Bk.set hbi)
            have E2 : Ext fp O H fp2 O' H' := ⟨E'.kp, E'.th, E'.ok, E'.on, fun a ha => E'.fn a (k2 a ha)⟩
            have fin : ∀ {ρ3 : Env} {σ3 : L2.St} {H3 : Hp} {O3 : Addr → Prop} {fp3 : List Addr}, SR ⟨c.toVb, ⟨i, a, q0⟩ :: c.xs⟩ O3 fp3 H3 ρ3 σ3 → Ext fp2 O' H' fp3 O3 H3 → Bk bor (σ'.set i (some (.ref a))) σ3 → ∃ fp4, SR c O3 fp4 H3 (ρ3.set i none) (σ3.set i none) ∧ Ext fp O H fp4 O3 H3 ∧ Bk bor σ (σ3.set i none) := by
              intro ρ3 σ3 H3 O3 fp3 S4 E4 B4
              have E5 := E2.trans E4 S.tr
              by_cases hl3 : i < ρ3.length
              · obtain ⟨fp4, S5, k5⟩ := S4.drop.del (s := none) hxs hl3
                exact ⟨fp4, S5, ⟨E5.kp, E5.th, E5.ok, E5.on, fun a ha => E5.fn a (k5 a ha)⟩, (B2.trans B4).trans (Bk.set hbi)⟩
              · have h1 : ρ3.set i none = ρ3 := List.set_eq_of_length_le (by omega)
                have h2 : σ3.set i none = σ3 := List.set_eq_of_length_le (by rw [S4.rs.len]; omega)
                rw [h1, h2]
                exact ⟨fp3, S4.drop, E5, B2.trans B4⟩
            revert q
            cases h x (ρ'.set i none) with
            | none => exact fun q => q
            | some o =>
              cases o with
              | nx ρ3 =>
                intro q σ3 H3 O3 fp3 S4 E4 B4
                obtain ⟨fp4, S5, E5, B5⟩ := fin S4 E4 B4
                exact q _ H3 O3 fp4 S5 E5 B5
              | brk ρ3 =>
                intro q σ3 H3 O3 fp3 S4 E4 B4
                obtain ⟨fp4, S5, E5, B5⟩ := fin S4 E4 B4
                exact q _ H3 O3 fp4 S5 E5 B5
              | cnt ρ3 =>
                intro q σ3 H3 O3 fp3 S4 E4 B4
                obtain ⟨fp4, S5, E5, B5⟩ := fin S4 E4 B4
                exact q _ H3 O3 fp4 S5 E5 B5
              | ret w ρ3 => exact fun q u σ3 H3 O3 fp3 g S4 E4 B4 R4 F4 => q u σ3 H3 O3 fp3 g S4.drop (E2.trans E4 S.tr) (B2.trans B4) R4.xs (fresh_of E2 F4)
              | exc x ρ3 => exact fun q => q.elim

/-! ### what a suite does with the exception -/
variable {a : Addr} {oe : Obj} {d : Option Addr} {q : Option (Addr × List (Str × V) × List (Str × D))} {pn : List (Addr × Obj)} {y : Exn} {nm : Str}
/-- isinstance(e, C) -/
def vIsE (g : Str → Option Bool) (y : Exn) : FE := fun ρ => match g y.n with
  | some b => if y.fs.isEmpty then some (.val (.fr (.bl b)) ρ) else none
  | none => none
theorem ve_isE {ce : Expr} {g : Str → Option Bool} {cv : Value} {u : V} (hK : X.K = c.K) (hz : Zc (.ref (c.cl y.n)) d oe) (hf : ∃ vs, oe.data = .fields vs) (h1 : ∀ l, q = some l → d = some l.1 ∧ l.2.2 = y.fs ∧ y.fs ≠ []) (h2 : q = none → y.fs = [] ∧ d = none)
    (hN : X.N[i]? = some nm) (hv : Vis X.env.scope nm) (hpe : PE (X.suite a ((a, oe) :: pn)) ce (tC u)) (hu : ∀ w, RelV u w → w = cv)
    (hg : ∀ n b, g n = some b → ExcC c.K (c.cl n) ∧ PySem.W.kitOne c.K (.ref (c.cl n)) cv = some b) (gl : Gl X "isinstance") (gm : X.mg "isinstance" = none) (gb : bootBuiltins "isinstance" = some (.builtin "isinstance"))
    (hd : (nm == ("__debug__" : Str)) = false := by decide) (hcd : (nm == ("__classdict__" : Str)) = false := by decide)
    (he : starEach [.Name nm p1, ce] X.env = (false, eval (.Name nm p1) X.env) :: starEach [ce] X.env := by rfl) (he2 : starEach [ce] X.env = (false, eval ce X.env) :: starEach [] X.env := by rfl) (hpl : (backTo pos (starEach [ce] X.env)).any (·.1) = false := by rfl) :
    VE ⟨c.toVb, ⟨i, a, q⟩ :: c.xs⟩ (X.suite a ((a, oe) :: pn)) W b (.Call (.Name "isinstance" p) [.Name nm p1, ce] [] pos) (vIsE g y) := by
  by_cases hgy : ∃ b, g y.n = some b ∧ y.fs = []
  · obtain ⟨bb, eg, ef⟩ := hgy
    obtain ⟨C1, C2⟩ := hg _ _ eg
    have qn : q = none := by
      cases q with
      | none => rfl
      | some l => exact absurd ef (h1 l rfl).2.2
    have dn : d = none := (h2 qn).2
    subst dn
    refine ⟨_, pe_callB (X := X.suite a ((a, oe) :: pn)) (call_isE (D := c.cl y.n) (by rw [hK]; exact C1) hz hf) gl gm gb (pa_cons (pe_var hN hv hd hcd) (pa_cons hpe pa_nil he2) he) (by decide) (by decide) he hpl, fun O fp H ρ σ Q S h => ?_⟩
    have px := (S.px _ List.mem_cons_self).1
    refine ⟨.ref a, px, u, cv, bb, rfl, hu, by rw [hK]; exact C2, ?_⟩
    unfold vIsE at h
    simp only [eg, ef, List.isEmpty_nil, if_true] at h
    exact h (.bl bb) H O fp [] S .refl (fun _ => .refl) ⟨rfl, rfl⟩ fun _ q => (by cases q)
  · refine ⟨fun _ _ _ => False, ⟨fun _ _ _ _ _ _ h => h.elim⟩, fun O fp H ρ σ Q S h => ?_⟩
    unfold vIsE at h
    cases eg : g y.n with
    | none => simp only [eg] at h; exact h
    | some b =>
      simp only [eg] at h
      by_cases ef : y.fs.isEmpty = true
      · exact absurd ⟨b, eg, List.isEmpty_iff.mp ef⟩ hgy
      · rw [if_neg ef] at h; exact h
/-- e.n -/
def vXf (ok : Str → Bool) (n : Str) (y : Exn) : FE := fun ρ => if ok y.n then match y.fs.lookup n with
    | some d => some (.val (.fr d) ρ)
    | none => none
  else none
theorem ve_xf {ok : Str → Bool} {n : Str} (hK : X.K = c.K) (hz : Zc (.ref (c.cl y.n)) d oe) (hf : ∃ vs, oe.data = .fields vs) (h1 : ∀ l, q = some l → d = some l.1 ∧ l.2.2 = y.fs ∧ y.fs ≠ []) (h2 : q = none → y.fs = [] ∧ d = none)
    (hN : X.N[i]? = some nm) (hv : Vis X.env.scope nm) (hok : ∀ m, ok m = true → XfC c.K (c.cl m) ∧ PySem.W.findIn c.K (.ref (c.cl m)) n = some none)
    (hd : (nm == ("__debug__" : Str)) = false := by decide) (hcd : (nm == ("__classdict__" : Str)) = false := by decide) (hb : attributeBase (.Name nm p1) n X.env (eval (.Name nm p1) X.env) = eval (.Name nm p1) X.env := by rfl) :
    VE ⟨c.toVb, ⟨i, a, q⟩ :: c.xs⟩ (X.suite a ((a, oe) :: pn)) W b (.Attribute (.Name nm p1) n pos) (vXf ok n y) := by
  by_cases ho : ok y.n = true
  · obtain ⟨T, hno⟩ := hok _ ho
    refine ⟨_, pe_xf (X := X) (by rw [hK]; exact T) (by rw [hK]; exact hno) hz hf (pe_var (X := X.suite a ((a, oe) :: pn)) hN hv hd hcd) hb, fun O fp H ρ σ Q S h => ?_⟩
    obtain ⟨px, py⟩ := S.px _ List.mem_cons_self
    unfold vXf at h
    rw [if_pos ho] at h
    cases el : y.fs.lookup n with
    | none => simp only [el] at h; exact h.elim
    | some dv =>
      simp only [el] at h
      cases q with
      | none => rw [(h2 rfl).1] at el; cases el
      | some l =>
        obtain ⟨e1, e2, _⟩ := h1 l rfl
        obtain ⟨⟨q1, q2⟩, q3⟩ := py l rfl
        rw [e2] at q3
        obtain ⟨v, w1, w2⟩ := q3.look.1 dv el
        exact ⟨.ref a, px, rfl, rfl, l.1, l.2.1, v, e1, q1, w1, h v H O fp [] S .refl (fun _ => .refl) ⟨w2, rfl⟩ fun _ q => (by cases q)⟩
  · refine ⟨fun _ _ _ => False, ⟨fun _ _ _ _ _ _ h => h.elim⟩, fun O fp H ρ σ Q S h => ?_⟩
    unfold vXf at h
    rw [if_neg ho] at h
    exact h
end
end Vl

namespace Vl
open PySem PySem.Spec PyProof.Rows L2
section
variable {c : Vc} {X : Cx} {W : WX} {b : Bool} {bor : List Nat} {O O1 O2 O' : Addr → Prop} {fp fp1 fp2 fp' fa fq : List Addr} {H H1 H2 H' : Hp} {ρ ρ1 ρ2 ρ' : Env} {σ σ1 σ' : L2.St} {k n i : Nat}
variable {e e' o : Expr} {es : List Expr} {fb fc : FE} {pos pos' apos p : Pos} {F : FF} {f : Addr} {fd : FuncData} {ps : List Str} {x m : Str}
/-! ### isinstance -/
inductive Tag where
  | ty (n : String) | cl (n : Str)
def tagD : D → Option Tag
  | .non => some (.ty "NoneType") | .bl _ => some (.ty "bool") | .int _ => some (.ty "int") | .str _ => some (.ty "str")
  | .lst _ => some (.ty "list") | .klst _ => some (.ty "list") | .tup _ => some (.ty "tuple") | .ktup _ => some (.ty "tuple") | .obj n _ => some (.cl n)
  | _ => none
def Tag.v (c : Vb) : Tag → Value
  | .ty n => .type n
  | .cl n => .ref (c.cl n)
def clsD (c : Vb) : D → Option Value
  | .ty n => some (.type n)
  | .con n => some (.ref (c.cl n))
  | _ => none
/-- what the classes answer: kf -/
def IsK (c : Vb) (kf : Tag → D → Option Bool) : Prop := ∀ t cd b, kf t cd = some b → ∃ cv, clsD c cd = some cv ∧ PySem.W.kitOne c.K (t.v c) cv = some b ∧ ∀ n, t = .cl n → Cls c.K (c.cl n) ∧ PySem.W.findIn c.K (.ref (c.cl n)) "__class__" = some (some (.builtin "object.__class__")) ∧
  PySem.W.specialIn c.K (.builtin "object.__class__") "__get__" = some (some (.builtin "getset_descriptor.__get__")) ∧ PySem.W.takesIn c.K (.builtin "object.__class__") = some true ∧ PySem.W.mroIn c.K (c.cl n) (.type "object") = some true
def gIsi (kf : Tag → D → Option Bool) : List D → Option Val
  | [x, cd] => (tagD x).bind fun t => (kf t cd).map fun b => .fr (.bl b)
  | _ => none
theorem s_isi {kf : Tag → D → Option Bool} (hk : IsK c kf) : CaS c (rIsi c.K) (gIsi kf) := fun O H vs ds w Q tr p e k => by
  unfold gIsi at e
  split at e
  · rename_i dx cd
    obtain ⟨t, e1, e2⟩ := Option.bind_eq_some_iff.mp e
    obtain ⟨b, e3, e4⟩ := Option.map_eq_some_iff.mp e2
    subst e4
    obtain ⟨cv, h1, h2, h3⟩ := hk _ _ _ e3
    obtain ⟨v, v', rfl, p1, p2⟩ := pks2 p
    have hc : ClsV v' cv := by
      cases cd with
      | ty n => cases h1; rw [show v' = .ty n from p2]; exact .ty n
      | con n => cases h1; rw [show v' = .ref (c.cl n) from p2]; exact .own _
      | _ => cases h1
    refine ⟨v, v', t.v c, cv, b, rfl, hc, ?_, h2, k _ H [] (.same rfl)⟩
    cases dx with
    | non => cases e1; rw [show v = .non from p1]; exact .base .non
    | bl _ => cases e1; rw [show v = .bl _ from p1]; exact .base (.bl _)
    | int _ => cases e1; rw [show v = .int _ from p1]; exact .base (.int _)
    | str _ => cases e1; rw [show v = .str _ from p1]; exact .base (.str _)
    | lst _ => cases e1; obtain ⟨a, us, rfl, ha, _⟩ := p1; exact .base (.lst ha)
    | tup _ => cases e1; obtain ⟨a, us, rfl, ha, _⟩ := p1; exact .base (.tup ha.1)
    | klst _ =>
      cases e1
      obtain ⟨a, us, rfl, ha, _⟩ := p1
      rcases ha with ⟨o, _, _, h, hcl, _⟩ | ⟨h, _⟩
      · exact .kList h hcl
      · cases q : H a with
        | none => rw [q] at h; cases h
        | some z =>
          rw [q] at h
          cases z with
          | frz o w => cases h; exact .base (.frz q)
          | lst _ => cases h; exact .base (.lst q)
          | _ => cases h
    | ktup _ => cases e1; obtain ⟨a, us, rfl, ⟨o, _, _, h, hcl, _⟩, _⟩ := p1; exact .kTuple h hcl
    | obj nm fs =>
      cases e1
      obtain ⟨a, dx, us, rfl, ha, _⟩ := p1
      obtain ⟨q1, q2, q3, q4, q5⟩ := h3 nm rfl
      exact .base (.ins ha q1 q2 q3 q4 q5)
    | _ => cases e1
  · cases e

/-! ### == of an own class -/
def rOwnEq (C : Addr) (sp : Sp) : R2 := fun x y H Q => ∃ a b dx dy fs gs, x = .ref a ∧ y = .ref b ∧ H a = some (.ins C dx fs) ∧ H b = some (.ins C dy gs) ∧ sp [x, y] H (fun v H' => (∃ k, v = .bl k) ∧ Q v H') (fun _ _ _ => False)
theorem op_ownEq {C : Addr} {sp : Sp} (Fk : FnOk X.prog X.w X.K X.mg X.base (L2.CX X.prog X.w) n f fd ps sp) (hs : PySem.W.findIn X.K (.ref C) "__eq__" = some (some (.ref f))) (hf : PySem.W.isFn X.K (.ref f) = true) (hb : Binds X.K fd ps []) (hr : Room n X.A) :
    OpR X (compareOp .Eq) (rOwnEq C sp) := by
  intro pins s σ H x y v u Q I rx ry hq
  obtain ⟨a, b, dx, dy, fs, gs, rfl, rfl, ha, hb', hsp⟩ := hq
  cases rx
  cases ry
  obtain ⟨mA, J, _⟩ := ins_get I.hok ha
  obtain ⟨mB, J', _⟩ := ins_get I.hok hb'
  obtain ⟨od, J, _⟩ := J.look
  obtain ⟨od', J', _⟩ := J'.look
  obtain ⟨m, hF⟩ := I.fr
  show wpAny (model X.prog X.w) X.A (richCompare .Eq (.ref a) (.ref b)) (EP X pins σ Q) X.xe s
  refine PySem.W.cmp_K (op := .Eq) (tb := .ref C) hr.units0 hF I.ok.mod.kin J J'.type (by simp [PySem.W.notFirst]) hs hf ?_
  have r2 : Vals [V.ref a, V.ref b] [Value.ref a, Value.ref b] := .cons rfl (.cons rfl .nil)
  refine L2.thn (run_fnS (E := fun _ _ _ _ => False) Fk hr hb (fun pins H s e s' I' cc => ?_) I r2 hsp) fun w s' z => ?_
  · exact ((passAt (X := { X with xe := fun _ _ => False }) (W := W0) (fun u s' q => by
      obtain ⟨_, _, _, _, _, _, _, _, _, _, _, _, _, _, _, _, w⟩ := q
      exact w) σ) pins H s e s' ⟨⟨I'.ok.mod, I'.ok.kind, I'.ok.glob, I'.ok.blt, I'.ok.above, I'.ok.inj, I'.ok.has, I'.ok.cab, I'.ok.hd, I'.ok.frames, I'.ok.stk, I'.ok.exf, I'.ok.bs, I'.ok.bsz, I'.ok.noex, I'.ok.exfs, I'.ok.funs, I'.ok.frf⟩, I'.os, I'.bare, I'.base, I'.loc, I'.cell, I'.free, I'.freeC, I'.pin, I'.hok, I'.len⟩ cc).elim
  · obtain ⟨v, H2, I2, rv, ⟨k, rfl⟩, q⟩ := z
    cases rv
    exact ⟨.bl k, H2, I2, rfl, q⟩
def kEqO (nm : Str) (F : FF) (x y : Val) : FE := fun ρ => if isObjB nm "" x ρ && isObjB nm "" y ρ then match kCallB F [x, y] ρ with
    | some (.val (.fr (.bl k)) ρ') => some (.val (.fr (.bl k)) ρ')
    | _ => none
  else none
def vEqO (nm : Str) (F : FF) (fb fc : FE) : FE := bnd fb fun x => bnd fc fun y => kEqO nm F x y
theorem ok_eqO {nm : Str} {ta tb : TE} (ha : Ok (RV c) c W false fb ta) (hb : Ok (RV c) c W false fc tb) : Ok (RV c) c W false (vEqO nm F fb fc) (tOp (rOwnEq (c.cl nm) (spV c.toVb 2 F)) ta tb) := fun O fp H ρ σ Q S h =>
  ha.thn S.tr S .refl (fun _ => .refl) h (fun q => q) fun x ρ1 u H1 O1 fp1 g1 _ S1 E1 _ I1 R1 F1 h1 =>
    hb.thn S.tr S1 E1 I1 h1 (fun q => q) fun y ρ2 v H2 O2 fp2 g2 _ S2 E2 E12 I2 R2 F2 h2 => by
      unfold kEqO at h2
      by_cases hi : (isObjB nm "" x ρ2 && isObjB nm "" y ρ2) = true
      case neg => rw [if_neg hi] at h2; exact h2.elim
      rw [if_pos hi] at h2
      rw [Bool.and_eq_true] at hi
      have R1' := R1.per (ρ1 := ρ2) S1 E12
      obtain ⟨a, dx, fs, rfl, ha, _⟩ := isObjB_ok hi.1 R1' S2
      obtain ⟨b, dy, gs, rfl, hb, _⟩ := isObjB_ok hi.2 R2 S2
      refine ⟨a, b, dx, dy, fs, gs, rfl, rfl, ha, hb, ?_⟩
      refine Post.callG (W := W0) (ws := [x, y]) (g1 := g1 ++ g2) rfl S.tr S2 E2 ⟨_, [.ref b], g1, g2, rfl, R1', ⟨_, [], g2, [], rfl, R2, ⟨rfl, rfl⟩, by simp, fun a _ q => (by cases q)⟩, rfl, fun a h1 h2 => (F2 a h2).elim (R1.trk a h1).ne (R1.own a h1).2⟩ (fun a ha => ?_) ?_
      · rcases List.mem_append.mp ha with q | q
        · exact F1 a q
        · exact fresh_of E1 F2 a q
      · revert h2
        cases kCallB F [x, y] ρ2 with
        | none => exact fun h => h
        | some o =>
          cases o with
          | exc _ _ => exact fun h => h.elim
          | val w ρ' =>
            cases w with
            | fr d =>
              cases d with
              | bl k =>
                intro h2 u H' O' fp' g S' E' I' R F
                exact ⟨⟨k, R.1⟩, h2 u H' O' fp' g S' E' I' R F⟩
              | _ => exact fun h => h.elim
            | _ => exact fun h => h.elim
theorem ve_eqO {nm : Str} (hK : X.K = c.K) (Fk : FnOk X.prog X.w X.K X.mg X.base (L2.CX X.prog X.w) n f fd ps (spV c.toVb 2 F)) (hs : PySem.W.findIn c.K (.ref (c.cl nm)) "__eq__" = some (some (.ref f))) (hf : PySem.W.isFn c.K (.ref f) = true) (hb : Binds X.K fd ps []) (hr : Room n X.A)
    (h1 : VE c X W false e fb) (h2 : VE c X W false e' fc) (hm : behindInMarks .Eq e' = false := by rfl) : VE c X W false (.Compare e [.Eq] [e'] pos) (vEqO nm F fb fc) := by
  obtain ⟨ta, pa, oa⟩ := h1
  obtain ⟨tb, pb, ob⟩ := h2
  exact ⟨_, pe_cmpR (op_ownEq Fk (by rw [hK]; exact hs) (by rw [hK]; exact hf) hb hr) pa pb hm, ok_eqO oa ob⟩
theorem vt_eqO {nm : Str} (hK : X.K = c.K) (Fk : FnOk X.prog X.w X.K X.mg X.base (L2.CX X.prog X.w) n f fd ps (spV c.toVb 2 F)) (hs : PySem.W.findIn c.K (.ref (c.cl nm)) "__eq__" = some (some (.ref f))) (hf : PySem.W.isFn c.K (.ref f) = true) (hb : Binds X.K fd ps []) (hr : Room n X.A)
    (h1 : VE c X W false e fb) (h2 : VE c X W false e' fc) (hm : behindInMarks .Eq e' = false := by rfl) : VT c X W false (.Compare e [.Eq] [e'] pos) (bnd (vEqO nm F fb fc) asB) := by
  obtain ⟨ta, pa, oa⟩ := h1
  obtain ⟨tb, pb, ob⟩ := h2
  exact ⟨_, pt_cmpR (op_ownEq Fk (by rw [hK]; exact hs) (by rw [hK]; exact hf) hb hr) pa pb hm, fun O fp H ρ σ Q S h => (ok_eqO oa ob).thn S.tr S .refl (fun _ => .refl) h (fun q => q) fun x ρ1 u H1 O1 fp1 g1 _ S1 E1 _ I1 R1 F1 h1 => Post.asB h1 S1 E1 I1 R1⟩

/-! ### o.f = v, o a slot's own -/
def putT (f : Str) (t : T) : List (Str × T) → List (Str × T)
  | [] => [(f, t)]
  | (g, x) :: r => if g = f then (g, t) :: r else (g, x) :: putT f t r
theorem RTf.put {t : T} {u : V} {g : List Addr} {fn : Str} (R : RT c O H t u g) (ng : g.Nodup) : ∀ {fs : List (Str × T)} {vs : List (Str × V)} {fq : List Addr}, RTf c O H fs vs fq → fq.Nodup → (∀ a ∈ g, a ∉ fq) →
    ∃ fq', RTf c O H (putT fn t fs) (putF fn u vs) fq' ∧ fq'.Nodup ∧ ∀ a ∈ fq', a ∈ fq ∨ a ∈ g
  | [], _, _, h, nd, dj => by
    obtain ⟨rfl, rfl⟩ := h
    exact ⟨g, ⟨u, [], g, [], rfl, R, ⟨rfl, rfl⟩, by simp⟩, ng, fun a ha => .inr ha⟩
  | (k, t0) :: r, _, _, ⟨v, vr, f1, f2, e, h1, h2, ef⟩, nd, dj => by
    subst e ef
    obtain ⟨n1, n2, n3⟩ := List.nodup_append.mp nd
    unfold putT putF
    by_cases hk : k = fn
    · rw [if_pos hk, if_pos hk]
      refine ⟨g ++ f2, ⟨u, vr, g, f2, rfl, R, h2, rfl⟩, List.nodup_append.mpr ⟨ng, n2, fun a ha b hb e => dj a ha (by rw [e]; simp [hb])⟩, fun a ha => ?_⟩
      rcases List.mem_append.mp ha with q | q
      · exact .inr q
      · exact .inl (by simp [q])
    · rw [if_neg hk, if_neg hk]
      obtain ⟨fq', q1, q2, q3⟩ := RTf.put R ng h2 n2 (fun a ha q => dj a ha (by simp [q]))
      refine ⟨f1 ++ fq', ⟨v, _, f1, fq', rfl, h1, q1, rfl⟩, List.nodup_append.mpr ⟨n1, q2, fun a ha b hb e => ?_⟩, fun a ha => ?_⟩
      · rcases q3 b hb with z | z
        · exact n3 a ha b z e
        · exact dj b z (by rw [← e]; simp [ha])
      · rcases List.mem_append.mp ha with q | q
        · exact .inl (by simp [q])
        · exact (q3 a q).imp (fun z => by simp [z]) id
theorem RTf.len : ∀ {fs : List (Str × T)} {vs : List (Str × V)} {fq : List Addr}, RTf c O H fs vs fq → vs.length = fs.length
  | [], _, _, h => by rw [h.1]; rfl
  | (_, _) :: _, _, _, ⟨v, r, f1, f2, e, _, t, _⟩ => by rw [e]; simp [RTf.len t]
/-- a slot's own thing is changed, its parts may be others then -/
theorem SR.mut2 {i : Nat} {t : T} {x : V} (S : SR c O fp H ρ σ) (e : ρ[i]? = some (some t)) (ex : σ[i]? = some (some x)) : ∃ f, RT c O H t x f ∧ f.Nodup ∧ (∀ b ∈ f, b ∈ fp) ∧
    ∀ H' t' f', f'.Nodup → (∀ b ∈ f', b ∈ f ∨ (O b ∧ b ∉ fp)) → (∀ b, b ∉ f → H' b = H b) → (∀ b ∈ f, nT (H' b)) → RT c O H' t' x f' → ∃ fp', SR c O fp' H' (ρ.set i (some t')) σ ∧ (∀ b, nT (H b) → b ∉ fp → H' b = H b) ∧ (∀ b, H b ≠ none → H' b ≠ none) ∧ (∀ b ∈ fp', b ∈ fp ∨ b ∈ f') := by
  obtain ⟨v, f, fl, fr, h1, h2, h3, h4, _⟩ := S.rs.get e
  rw [ex] at h1
  obtain rfl : x = v := by simpa using h1
  have nd := S.nd
  rw [h3] at nd
  have dj : ∀ a ∈ fl ++ fr, a ∉ f := by
    simp only [List.nodup_append, List.mem_append] at nd ⊢
    rintro a (ha | ha) hf
    · exact nd.1.2.2 a ha a hf rfl
    · exact nd.2.2 a (.inr hf) a ha rfl
  have nf : f.Nodup := by
    simp only [List.nodup_append] at nd
    exact nd.1.2.1
  have inf : ∀ b ∈ f, b ∈ fp := fun b hb => by rw [h3]; simp [hb]
  have of : ∀ b ∈ f, O b := fun b hb => S.ow b (inf b hb)
  refine ⟨f, h2, nf, inf, fun H' t' f' nf' sf kp tr R => ?_⟩
  have kpO : ∀ b, ¬ O b → H' b = H b := fun b nb => kp b fun q => nb (of b q)
  have es : σ.set i (some x) = σ := set_same ex
  have q := h4 (O' := O) (H' := H') (.of (fun a n _ => kpO a n) fun a h => .inl h) (fun a ha => kp a (dj a ha)) R
  rw [es] at q
  have lr : ∀ a ∈ fl ++ fr, a ∈ fp := fun a ha => by
    rw [h3]
    simp only [List.mem_append] at ha ⊢
    rcases ha with ha | ha <;> simp [ha]
  have djf : ∀ a ∈ f', a ∉ fl ++ fr := fun a ha q => (sf a ha).elim (dj a q) fun z => z.2 (lr a q)
  refine ⟨fl ++ f' ++ fr, ⟨q, ?_, fun a ha => ?_, fun b hb => ?_, fun P hP => ?_, fun p hp => (S.px p hp).stb (.of (fun a n _ => kpO a n) fun a h => .inl h)⟩, fun b _ n => kp b fun q => n (inf b q), fun b h => ?_, fun a ha => ?_⟩
  · have nd2 := nodup_less nd
    simp only [List.nodup_append, List.mem_append] at nd2 ⊢
    refine ⟨⟨nd2.1, nf', fun a ha b hb e => djf b hb (by rw [← e]; simp [ha])⟩, nd2.2.1, fun a ha b hb e => ?_⟩
    rcases ha with ha | ha
    · exact nd2.2.2 a ha b hb e
    · exact djf a ha (by rw [e]; simp [hb])
  · simp only [List.mem_append] at ha
    rcases ha with (ha | ha) | ha
    · exact S.ow a (lr a (by simp [ha]))
    · exact (sf a ha).elim (of a) fun z => z.1
    · exact S.ow a (lr a (by simp [ha]))
  · by_cases z : b ∈ f
    · exact tr b z
    · rw [kp b z]; exact S.tr b hb
  · obtain ⟨ps, e1, e2⟩ := S.tb P hP
    have z : P ∉ f := fun z => by
      obtain ⟨u, q1, q2⟩ := S.tr P (of P z)
      rw [e1] at q1
      cases q1
      cases q2
    exact ⟨ps, by rw [kp P z]; exact e1, e2⟩
  · by_cases z : b ∈ f
    · exact (tr b z).ne
    · rw [kp b z]; exact h
  · simp only [List.mem_append] at ha
    rcases ha with (ha | ha) | ha
    · exact .inl (lr a (by simp [ha]))
    · exact .inr ha
    · exact .inl (lr a (by simp [ha]))
/-- what a store makes of a value: moved in, or at rest -/
def mvT (rest : Bool) : Val → Option T
  | .fr d => some (.fr d)
  | .nw t => some (if rest then .fr t.toD else t)
  | .al _ => none
  | .pt _ _ => none
def kFs (rest : Bool) (nm fn : Str) (w x : Val) : FS := fun ρ => match x with
  | .al i => match ρ[i]?, mvT rest w with
    | some (some (.obj n fs)), some t => if n = nm ∧ fs.length < 1000 then some (.nx (ρ.set i (some (.obj n (putT fn t fs))))) else none
    | _, _ => none
  | _ => none
def sFs (rest : Bool) (nm fn : Str) (fa fo : FE) : FS := exS fa fun w => exS fo fun x => kFs rest nm fn w x
theorem vs_fs {nm fn : Str} {a : Expr} {fa fo : FE} (rest : Bool) (hK : X.K = c.K) (cl : Cls c.K (c.cl nm)) (na : NoAttr c.K (c.cl nm) fn) (ha : VE c X W false a fa) (ho : VE c X W false o fo) (hs : swapsWith a (some (.Attribute o fn pos')) pos.line X.env = pure false := by rfl) :
    VS c X W bor (.Assign [.Attribute o fn pos'] a pos) (sFs rest nm fn fa fo) := by
  obtain ⟨ta, pa, oa⟩ := ha
  obtain ⟨tb, pb, ob⟩ := ho
  refine ⟨_, ps_fld pb pa hs, fun O fp H ρ σ D S h => oa.stm S.tr S .refl .refl h fun w ρ1 u H1 O1 fp1 g1 S1 E1 _ _ R1 F1 h => ?_⟩
  refine ob.stm S.tr S1 E1 .refl h fun x ρ2 v H2 O2 fp2 g2 S2 E2 E12 _ R2 F2 hfin => ?_
  have R1' := R1.per (ρ1 := ρ2) S1 E12
  clear h
  cases x with
  | al j =>
    simp only [kFs] at hfin
    split at hfin
    · rename_i n fs t et em
      split at hfin
      · rename_i hc
        obtain ⟨rfl, hl⟩ := hc
        -- the value: own parts g, a set O3 without those that come to rest
        have hv : ∃ O3 g, SR c O3 fp2 H2 ρ2 σ ∧ Ext fp O H fp2 O3 H2 ∧ RT c O3 H2 t u g ∧ g.Nodup ∧ (∀ b ∈ g, O3 b ∧ b ∉ fp2) ∧ Fr g fp H := by
          cases w with
          | fr d => cases em; exact ⟨O2, [], S2, E2, ⟨R1'.1, rfl⟩, .nil, fun b q => (by cases q), fun b q => (by cases q)⟩
          | al i => cases em
          | pt i j => cases em
          | nw t0 =>
            cases rest with
            | false => cases em; exact ⟨O2, g1, S2, E2, R1'.1, R1'.2.1, R1'.2.2, F1⟩
            | true =>
              cases em
              exact ⟨_, [], S2.less fun a ha => (R1'.own a ha).2, E2.less S.tr F1, ⟨R1'.1.rest (fun a q => q.1) (fun a ha q => q.2 ha), rfl⟩, .nil, fun b q => (by cases q), fun b q => (by cases q)⟩
        obtain ⟨O3, g, S3, E3, RT3, ng, og, Fg⟩ := hv
        have ej : σ[j]? = some (some v) := R2.1
        obtain ⟨f, q1, q2, q3, q4⟩ := S3.mut2 et ej
        obtain ⟨p, dx, vs, fq, rfl, hp, rf, rfl⟩ := q1
        obtain ⟨n1, n2⟩ := List.nodup_cons.mp q2
        have dj : ∀ a ∈ g, a ∉ fq := fun a ha q => (og a ha).2 (q3 a (by simp [q]))
        obtain ⟨fq', w1, w2, w3⟩ := rf.put (fn := fn) RT3 ng n2 dj
        have po : O3 p := S3.ow p (q3 p (by simp))
        have st : Stb O3 H2 O3 (upd H2 p (.ins (c.cl n) dx (putF fn u vs))) := .of (fun a n _ => upd_ne fun q => n (q ▸ po)) fun a h => .inl h
        have pg : p ∉ g := fun q => (og p q).2 (q3 p (by simp))
        have pq : p ∉ fq' := fun q => (w3 p q).elim n1 pg
        refine ⟨p, c.cl n, dx, vs, rfl, hp, by rw [hK]; exact cl, by rw [hK]; exact na, by rw [rf.len]; exact hl, ?_⟩
        have hA : ∀ b ∈ p :: fq', b ∈ p :: fq ∨ (O3 b ∧ b ∉ fp2) := fun b hb => by
          rcases List.mem_cons.mp hb with q | q
          · exact .inl (by simp [q])
          · rcases w3 b q with q | q
            · exact .inl (by simp [q])
            · exact .inr (og b q)
        have hB : ∀ b ∈ p :: fq, nT (upd H2 p (.ins (c.cl n) dx (putF fn u vs)) b) := fun b hb => by
          rcases List.mem_cons.mp hb with q | q
          · rw [q]; exact .of upd_same
          · have ne : b ≠ p := fun z => n1 (z ▸ q)
            rw [upd_ne ne]
            exact S3.tr b (S3.ow b (q3 b (by simp [q])))
        obtain ⟨fp4, z1, z2, z3, z4⟩ := q4 (upd H2 p (.ins (c.cl n) dx (putF fn u vs))) (.obj n (putT fn t fs)) (p :: fq') (List.nodup_cons.mpr ⟨pq, w2⟩) hA (fun b hb => upd_ne fun q => hb (by simp [q])) hB ⟨p, dx, _, fq', rfl, upd_same, w1.stb st fun a ha => upd_ne fun q => pq (q ▸ ha), rfl⟩
        refine hfin σ _ O3 fp4 z1 ⟨fun b hb hn => ?_, fun b hb => z3 b (E3.th b hb), E3.ok, E3.on, fun b hb => ?_⟩ .refl
        · have nb : b ∉ fp2 := fun q => (E3.fn b q).elim hn hb.ne
          rw [z2 b (by rw [E3.kp b hb hn]; exact hb) nb]
          exact E3.kp b hb hn
        · rcases z4 b hb with q | q
          · exact E3.fn b q
          · rcases List.mem_cons.mp q with q | q
            · exact E3.fn b (q3 b (by simp [q]))
            · rcases w3 b q with q | q
              · exact E3.fn b (q3 b (by simp [q]))
              · exact (Fg b q).symm
      · exact hfin.elim
    · exact hfin.elim
  | _ => exact hfin.elim
end
end Vl

namespace Vl
open PySem PySem.Spec PyProof.Rows L2 He
/-! ### a def of the text -/
structure DW (k : Nat) (X : Cx) (W : WX) : Prop where
  ps : PassesOwn (model X.prog X.w) X.A X.env X.xe
  tk : Takes X W
  rm : Room k X.A
structure DOk (P : Program) (w : World) (c : Vb) (mg : Str → Option Value) (base : Heap) (L : Nat) (f : Addr) (ps : List Str) (n : Nat) (F : FF) : Prop where
  ex : ∃ fd, FnOk P w c.K mg base (L2.CX P w) L f fd ps (spV c n F) ∧ Binds c.K fd ps [] ∧ ∃ oc od osl, c.K.lookup f = some ⟨oc, od, .func fd, osl⟩
  kp : PySem.W.keepIn c.K (.ref f) = true
section
variable {c : Vb} {P : Program} {w : World} {mg : Str → Option Value} {base : Heap} {k : Nat} {g : FS} {bor : List Nat}
theorem body_okD {d : DefD} {f : Addr} {N ps : List Str} (hd : d.dfl = []) (F : ∃ fd, FunD c.K d.name d.qual d.params d.body d.scope (d.dvs c.K) (d.kws c.K) f fd) (S : FnScope N ps d.scope)
    (hn : ∀ (kV doc pm : Value) (an : Option Addr) (cdv ct : Value) (us : List Value), us.length = ps.length → bindArgs (PySem.W.fnOf d.name d.qual d.params d.body d.scope .none kV doc pm an cdv ct) ⟨us, []⟩ = pure (ps.zip us))
    (hb : ∀ (cdv : Value) (A : Around) (outer : List PySem.Env) (s : Shared) (H : Hp) (E : XK), (∃ oc od osl fd, c.K.lookup f = some ⟨oc, od, .func fd, osl⟩ ∧ fd.code = cdv) →
      DW k (cxOf (L2.CX P w) P w c.K mg base N d.qual d.scope f cdv A outer s H E) (fun cls d _ H => E cls d H) → VSs c.v (cxOf (L2.CX P w) P w c.K mg base N d.qual d.scope f cdv A outer s H E) (fun cls d _ H => E cls d H) bor d.body g) :
    DOk P w c mg base (k + 1) f ps ps.length (bodyF N.length bor g) := by
  obtain ⟨fd, F⟩ := F
  have F' : FunD c.K d.name d.qual d.params d.body d.scope [] (d.kws c.K) f fd := by
    have e : d.dvs c.K = [] := by unfold DefD.dvs; rw [hd]; rfl
    rw [← e]
    exact F
  refine ⟨⟨fd, ?_, F'.bindsN hn, let ⟨oc, od, _, _, _, _, _, _, _, osl, _, lk, _⟩ := F.ex; ⟨oc, od, osl, lk⟩⟩, F.kp⟩
  obtain ⟨oc, od, dV, kV, doc, pm, an, cdv, ct, osl, rfl, lk, hcd, _, _⟩ := F.ex
  refine fn_of lk hcd S (fun vs H Q E h => h.1) fun A outer s H vs Q E hr h => ?_
  obtain ⟨t, pt, ot⟩ := hb cdv A outer s H E ⟨oc, od, osl, _, lk, rfl⟩ ⟨passes_of (K := fun e s'' => L2.CX P w outer H s E e s'') (E₁ := fun e s'' => L2.CX P w outer H s E e s'') rfl, takes_of rfl rfl rfl rfl, hr⟩
  exact ⟨t, pt, body_core ot h⟩
end
section
variable {c : Vc} {X : Cx} {W : WX} {b : Bool} {bor : List Nat} {k n : Nat} {e e' o : Expr} {es : List Expr} {fa fb fo : FE} {fs : FG (List Val)} {pos apos p : Pos} {F : FF} {f C : Addr} {ps : List Str} {x m : Str}
theorem ve_callD (D : DOk X.prog X.w c.toVb X.mg X.base k f ps n F) (hr : Room k X.A) (tk : Takes X W) (hK : X.K = c.K) (hm : X.mg x = some (.ref f)) (ha : VA c X W false (e :: es) fs) (hg : Gl X x := by rfl) (hdb : (x == ("__debug__" : Str)) = false := by decide)
    (he : starEach (e :: es) X.env = (false, eval e X.env) :: starEach es X.env := by rfl) (hpl : (backTo pos (starEach es X.env)).any (·.1) = false := by rfl) : VE c X W false (.Call (.Name x p) (e :: es) [] pos) (vCallG n F fs) := by
  obtain ⟨⟨fd, Fk, hb, _⟩, kp⟩ := D
  exact ve_callG (by rw [hK]; exact Fk) hr hg hm (by rw [hK]; exact kp) (by rw [hK]; exact hb) tk ha hdb he hpl
theorem ve_methD {nm : Str} {pl : Sem Bool} (D : DOk X.prog X.w c.toVb X.mg X.base k f ps n F) (hr : Room k X.A) (tk : Takes X W) (hK : X.K = c.K) (cl : Cls c.K (c.cl nm)) (hm : Meth c.K (c.cl nm) m f) (ho : VE c X W false o fo) (ha : VA c X W false (e :: es) fs)
    (hst : starEach (e :: es) X.env = (false, eval e X.env) :: starEach es X.env := by rfl) (hpl : (backTo pos (starEach es X.env)).any (·.1) = false := by rfl)
    (ht : eval (.Call (.Attribute o m apos) (e :: es) [] pos) X.env = (do
      let ov ← eval o X.env
      standAt apos.atName
      let (f, first) ← holding [ov] (getMethod ov m pl)
      callWith pos f first (backTo pos (starEach (e :: es) X.env)) (backToKw pos (keywordEach [] X.env))) := by rfl) :
    VE c X W false (.Call (.Attribute o m apos) (e :: es) [] pos) (vMethG nm m n F fo fs) := by
  obtain ⟨⟨fd, Fk, hb, _⟩, kp⟩ := D
  exact ve_methG hK ho cl hm (by rw [hK]; exact Fk) hr (by rw [hK]; exact hb) tk ha hst hpl ht
theorem ve_methD0 {nm : Str} {pl : Sem Bool} (D : DOk X.prog X.w c.toVb X.mg X.base k f ps n F) (hr : Room k X.A) (tk : Takes X W) (hK : X.K = c.K) (cl : Cls c.K (c.cl nm)) (hm : Meth c.K (c.cl nm) m f) (ho : VE c X W false o fo)
    (ht : eval (.Call (.Attribute o m apos) [] [] pos) X.env = (do
      let ov ← eval o X.env
      standAt apos.atName
      let (f, first) ← holding [ov] (getMethod ov m pl)
      callWith pos f first (backTo pos (starEach [] X.env)) (backToKw pos (keywordEach [] X.env))) := by rfl) :
    VE c X W false (.Call (.Attribute o m apos) [] [] pos) (vMethG nm m n F fo vNil) := by
  obtain ⟨⟨fd, Fk, hb, _⟩, kp⟩ := D
  exact ve_methG0 hK ho cl hm (by rw [hK]; exact Fk) hr (by rw [hK]; exact hb) tk ht
theorem ve_makeD {nm : Str} (D : DOk X.prog X.w c.toVb X.mg X.base k f ps n F) (hr : Room (k + 1) X.A) (tk : Takes X W) (hK : X.K = c.K) (M : Mk c.K (c.cl nm) f) (hm : X.mg x = some (.ref (c.cl nm))) (ha : VA c X W false (e :: es) fs) (hg : Gl X x := by rfl) (hdb : (x == ("__debug__" : Str)) = false := by decide)
    (he : starEach (e :: es) X.env = (false, eval e X.env) :: starEach es X.env := by rfl) (hpl : (backTo pos (starEach es X.env)).any (·.1) = false := by rfl) : VE c X W false (.Call (.Name x p) (e :: es) [] pos) (vMakeG nm n F fs) := by
  obtain ⟨⟨fd, Fk, hb, _⟩, kp⟩ := D
  exact ve_makeG hK M (by rw [hK]; exact Fk) hr hg hm (by rw [hK]; exact hb) tk ha hdb he hpl
theorem ve_eqD {nm : Str} (D : DOk X.prog X.w c.toVb X.mg X.base k f ps 2 F) (hr : Room k X.A) (hK : X.K = c.K) (hs : Meth c.K (c.cl nm) "__eq__" f) (h1 : VE c X W false e fa) (h2 : VE c X W false e' fb) (hm : behindInMarks .Eq e' = false := by rfl) : VE c X W false (.Compare e [.Eq] [e'] pos) (vEqO nm F fa fb) := by
  obtain ⟨⟨fd, Fk, hb, _⟩, kp⟩ := D
  exact ve_eqO hK (by rw [hK]; exact Fk) hs.at_ hs.fn (by rw [hK]; exact hb) hr h1 h2 hm
theorem vt_eqD {nm : Str} (D : DOk X.prog X.w c.toVb X.mg X.base k f ps 2 F) (hr : Room k X.A) (hK : X.K = c.K) (hs : Meth c.K (c.cl nm) "__eq__" f) (h1 : VE c X W false e fa) (h2 : VE c X W false e' fb) (hm : behindInMarks .Eq e' = false := by rfl) : VT c X W false (.Compare e [.Eq] [e'] pos) (bnd (vEqO nm F fa fb) asB) := by
  obtain ⟨⟨fd, Fk, hb, _⟩, kp⟩ := D
  exact vt_eqO hK (by rw [hK]; exact Fk) hs.at_ hs.fn (by rw [hK]; exact hb) hr h1 h2 hm
/-- a built-in type's name -/
theorem ve_bt {T : String} (hm : X.mg x = none) (hv : bootBuiltins x = some (.type T)) (hg : Gl X x := by rfl) (hn : x ≠ "__name__" := by decide) (hd : (x == ("__debug__" : Str)) = false := by decide) : VE c X W b (.Name x pos) (vC (.ty T)) :=
  ⟨_, pe_bltn (v := .ty T) hg hm hv rfl hn hd, ok_c fun _ _ => rfl⟩
/-- a class, a def of the text by its name -/
theorem ve_gc {nm : Str} (hm : X.mg nm = some (.ref (c.cl nm))) (hg : Gl X nm := by rfl) (hd : (nm == ("__debug__" : Str)) = false := by decide) : VE c X W b (.Name nm pos) (vC (.con nm)) := ve_g (v := .ref (c.cl nm)) hg hm rfl (fun _ _ => rfl) hd
theorem ve_gi {i : Int} (hm : ∃ t, X.mg x = some (.int i t)) (hg : Gl X x := by rfl) (hd : (x == ("__debug__" : Str)) = false := by decide) : VE c X W b (.Name x pos) (vC (.int i)) := by
  obtain ⟨t, hm⟩ := hm
  exact ve_g (v := .int i) hg hm ⟨_, rfl⟩ (fun _ _ => rfl) hd
theorem ve_gs {z : Str} (hm : ∃ t, X.mg x = some (.str z t)) (hg : Gl X x := by rfl) (hd : (x == ("__debug__" : Str)) = false := by decide) : VE c X W b (.Name x pos) (vC (.str z)) := by
  obtain ⟨t, hm⟩ := hm
  exact ve_g (v := .str z) hg hm ⟨_, rfl⟩ (fun _ _ => rfl) hd
end
/-! ### what the head tells -/
def vbOf (K : PySem.W.Frag) (tf : List Defn) : Vb := ⟨K, ga K, fun P => ∃ p ∈ tf, P = (cT K p).2⟩
structure Zf (fa : List Fa) (fn : List DefD) (tf : List Defn) (ex : PySem.W.Frag → Bool) (K : PySem.W.Frag) (mg : Str → Option Value) (base : Heap) : Prop where
  ok : ∀ (i : Nat) (f : Fa), fa[i]? = some f → f.ok K = true
  df : ∀ (i : Nat) (d : DefD), fn[i]? = some d → ∃ fd, FunD K d.name d.qual d.params d.body d.scope (d.dvs K) (d.kws K) (fAd K d.at_) fd
  more : ex K = true
  X : K.In base
  G : base.Ns mainGlobals mg
  tb : ∀ p ∈ tf, GxR.TabB base mg (cT K p).1 (cT K p).2
section
variable {fa : List Fa} {fn : List DefD} {tf : List Defn} {ex : PySem.W.Frag → Bool} {K : PySem.W.Frag} {mg : Str → Option Value} {base : Heap}
theorem Zf.glo (z : Zf fa fn tf ex K mg base) (i : Nat) {x : Str} (h : fa[i]? = some (.glo x) := by rfl) : mg x = some (.ref (ga K x)) := glo_ok z.X z.G (z.ok i _ h)
theorem Zf.free (z : Zf fa fn tf ex K mg base) (i : Nat) {x : Str} (h : fa[i]? = some (.free x) := by rfl) : mg x = none := free_ok z.X z.G (z.ok i _ h)
theorem Zf.int (z : Zf fa fn tf ex K mg base) (i : Nat) {x : Str} {j : Int} (h : fa[i]? = some (.int x j) := by rfl) : ∃ t, mg x = some (.int j t) := int_ok z.X z.G (z.ok i _ h)
theorem Zf.str (z : Zf fa fn tf ex K mg base) (i : Nat) {x y : Str} (h : fa[i]? = some (.str x y) := by rfl) : ∃ t, mg x = some (.str y t) := str_ok z.X z.G (z.ok i _ h)
theorem Zf.cls (z : Zf fa fn tf ex K mg base) (i : Nat) {x : Str} (h : fa[i]? = some (.cls x) := by rfl) : Cls K (ga K x) := cls_ok (z.ok i _ h)
theorem Zf.noat (z : Zf fa fn tf ex K mg base) (i : Nat) {x f : Str} (h : fa[i]? = some (.noat x f) := by rfl) : NoAttr K (ga K x) f := noat_ok (z.ok i _ h)
theorem Zf.meth (z : Zf fa fn tf ex K mg base) (i : Nat) {x m : Str} (h : fa[i]? = some (.meth x m) := by rfl) : Meth K (ga K x) m (ma K (ga K x) m) := meth_ok (z.ok i _ h)
theorem Zf.mkr (z : Zf fa fn tf ex K mg base) (i : Nat) {x : Str} (h : fa[i]? = some (.mkr x) := by rfl) : Mk K (ga K x) (ma K (ga K x) "__init__") := mkr_ok (z.ok i _ h)
theorem Zf.exc (z : Zf fa fn tf ex K mg base) (i : Nat) {x : Str} (h : fa[i]? = some (.exc x) := by rfl) : PySem.W.excIn K (ga K x) veBase "ValueError.__new__" = true ∧ PySem.W.keepIn K (.ref (ga K x)) = true ∧ PySem.W.subIn K (.ref (ga K x)) (.type "BaseException") = some true ∧ PySem.W.typeIn K (.ref (ga K x)) = some (.type "type") := exc_ok (z.ok i _ h)
theorem Zf.exm (z : Zf fa fn tf ex K mg base) (i : Nat) {x y : Str} {b : Bool} (h : fa[i]? = some (.exm x y b) := by rfl) : PySem.W.exmOne K (.ref (ga K x)) (.ref (ga K y)) = some b := exm_ok (z.ok i _ h)
/-- the def's code object and its table -/
theorem Zf.code (z : Zf fa fn tf ex K mg base) {p : Defn} (hp : p ∈ tf) {cdv : Value} (hc : ∃ oc od osl fd, K.lookup (fAd K p) = some ⟨oc, od, .func fd, osl⟩ ∧ fd.code = cdv) (hq : ∃ (i : Nat) (q : Str), fa[i]? = some (Fa.code p q)) : cdv = .ref (cT K p).1 := by
  obtain ⟨i, q, hq⟩ := hq
  have h1 := z.ok i _ hq
  obtain ⟨oc, od, osl, fd, lk, rfl⟩ := hc
  have h2 : (match K.lookup (fAd K p) with
    | some ⟨_, _, .func fd, _⟩ => PySem.W.codeIn K fd.code q
    | _ => false) = true := h1
  rw [lk] at h2
  obtain ⟨c, e⟩ := codeIn_ref h2
  rw [e, show (cT K p).1 = codeOf K p from rfl, codeOf_eq lk e]
end
/-! ### isinstance: the table of answers -/
def Tag.dec : (a b : Tag) → Decidable (a = b)
  | .ty n, .ty m => if h : n = m then isTrue (by rw [h]) else isFalse fun e => h (by cases e; rfl)
  | .cl n, .cl m => if h : n = m then isTrue (by rw [h]) else isFalse fun e => h (by cases e; rfl)
  | .ty _, .cl _ => isFalse fun e => nomatch e
  | .cl _, .ty _ => isFalse fun e => nomatch e
instance : DecidableEq Tag := Tag.dec
def tagCls : D → Option Tag
  | .ty n => some (.ty n)
  | .con n => some (.cl n)
  | _ => none
def kfOf (l : List (Tag × Tag × Bool)) (t : Tag) (cd : D) : Option Bool := (tagCls cd).bind fun u => (l.find? fun q => decide (q.1 = t) && decide (q.2.1 = u)).map fun q => q.2.2
def tagOkB (K : PySem.W.Frag) : Tag → Bool
  | .ty _ => true
  | .cl n => (Fa.cls n).ok K && (eqO (PySem.W.findIn K (.ref (ga K n)) "__class__") (some (some (.builtin "object.__class__"))) && (eqO (PySem.W.specialIn K (.builtin "object.__class__") "__get__") (some (some (.builtin "getset_descriptor.__get__"))) &&
    (decide (PySem.W.takesIn K (.builtin "object.__class__") = some true) && decide (PySem.W.mroIn K (ga K n) (.type "object") = some true))))
def Tag.vK (K : PySem.W.Frag) : Tag → Value
  | .ty n => .type n
  | .cl n => .ref (ga K n)
def isB (K : PySem.W.Frag) (l : List (Tag × Tag × Bool)) : Bool := l.all fun q => tagOkB K q.1 && decide (PySem.W.kitOne K (q.1.vK K) (q.2.1.vK K) = some q.2.2)
theorem isB_ok {K : PySem.W.Frag} {tf : List Defn} {l : List (Tag × Tag × Bool)} (h : isB K l = true) : IsK (vbOf K tf) (kfOf l) := fun t cd b e => by
  unfold kfOf at e
  obtain ⟨u, e1, e2⟩ := Option.bind_eq_some_iff.mp e
  obtain ⟨q, e3, e4⟩ := Option.map_eq_some_iff.mp e2
  subst e4
  have hm := List.mem_of_find?_eq_some e3
  have hp := List.find?_some e3
  obtain ⟨p1, p2⟩ := ba hp
  have p1 := of_decide_eq_true p1
  have p2 := of_decide_eq_true p2
  obtain ⟨h1, h2⟩ := ba (List.all_eq_true.mp h q hm)
  have h2 := of_decide_eq_true h2
  rw [p1, p2] at h2
  refine ⟨u.vK K, ?_, ?_, fun n en => ?_⟩
  · cases cd with
    | ty n => cases e1; rfl
    | con n => cases e1; rfl
    | _ => cases e1
  · cases t <;> exact h2
  · rw [p1, en] at h1
    obtain ⟨a1, h1⟩ := ba (show ((Fa.cls n).ok K && _) = true from h1)
    obtain ⟨a2, h1⟩ := ba h1
    obtain ⟨a3, h1⟩ := ba h1
    obtain ⟨a4, a5⟩ := ba h1
    exact ⟨cls_ok a1, eqO_ok a2, eqO_ok a3, of_decide_eq_true a4, of_decide_eq_true a5⟩
/-- .. of a caught exception -/
def excCB (K : PySem.W.Frag) (n : Str) : Bool := eqO (PySem.W.findIn K (.ref (ga K n)) "__getattribute__") (some (some (.builtin "BaseException.__getattribute__"))) && (eqO (PySem.W.findIn K (.ref (ga K n)) "__getattr__") (some none) && (decide (PySem.W.subIn K (.ref (ga K n)) (.type "BaseException") = some true) &&
  (PySem.W.hasDictIn K (ga K n) && (eqO (PySem.W.findIn K (.ref (ga K n)) "__class__") (some (some (.builtin "object.__class__"))) && (eqO (PySem.W.specialIn K (.builtin "object.__class__") "__get__") (some (some (.builtin "getset_descriptor.__get__"))) &&
    (decide (PySem.W.takesIn K (.builtin "object.__class__") = some true) && decide (PySem.W.mroIn K (ga K n) (.type "object") = some true)))))))
theorem excCB_ok {K : PySem.W.Frag} {n : Str} (h : excCB K n = true) : ExcC K (ga K n) := by
  obtain ⟨a1, h⟩ := ba h
  obtain ⟨a2, h⟩ := ba h
  obtain ⟨a3, h⟩ := ba h
  obtain ⟨a4, h⟩ := ba h
  obtain ⟨a5, h⟩ := ba h
  obtain ⟨a6, h⟩ := ba h
  obtain ⟨a7, a8⟩ := ba h
  exact ⟨eqO_ok a1, eqO_ok a2, of_decide_eq_true a3, a4, eqO_ok a5, eqO_ok a6, of_decide_eq_true a7, of_decide_eq_true a8⟩
/-- entries: the exception's class, the class asked for, the answer -/
def keOf (l : List (Str × Tag × Bool)) (u : Tag) (n : Str) : Option Bool := (l.find? fun q => decide (q.1 = n) && decide (q.2.1 = u)).map fun q => q.2.2
def isEB (K : PySem.W.Frag) (l : List (Str × Tag × Bool)) : Bool := l.all fun q => excCB K q.1 && decide (PySem.W.kitOne K (.ref (ga K q.1)) (q.2.1.vK K) = some q.2.2)
theorem isEB_ok {K : PySem.W.Frag} {l : List (Str × Tag × Bool)} (h : isEB K l = true) (u : Tag) : ∀ n b, keOf l u n = some b → ExcC K (ga K n) ∧ PySem.W.kitOne K (.ref (ga K n)) (u.vK K) = some b := fun n b e => by
  unfold keOf at e
  obtain ⟨q, e3, e4⟩ := Option.map_eq_some_iff.mp e
  subst e4
  have hm := List.mem_of_find?_eq_some e3
  have hp := List.find?_some e3
  obtain ⟨p1, p2⟩ := ba hp
  have p1 := of_decide_eq_true p1
  have p2 := of_decide_eq_true p2
  obtain ⟨h1, h2⟩ := ba (List.all_eq_true.mp h q hm)
  have h2 := of_decide_eq_true h2
  rw [p1, p2] at h2
  rw [p1] at h1
  exact ⟨excCB_ok h1, h2⟩
/-- an except clause's answers: entries the exception's class and the answer -/
def kmOf (l : List (Str × Bool)) (n : Str) : Option Bool := (l.find? fun q => decide (q.1 = n)).map fun q => q.2
def exmB (K : PySem.W.Frag) (u : Tag) (l : List (Str × Bool)) : Bool := l.all fun q => decide (PySem.W.exmOne K (.ref (ga K q.1)) (u.vK K) = some q.2)
theorem exmB_ok {K : PySem.W.Frag} {u : Tag} {l : List (Str × Bool)} (h : exmB K u l = true) : ∀ n b, kmOf l n = some b → PySem.W.exmOne K (.ref (ga K n)) (u.vK K) = some b := fun n b e => by
  unfold kmOf at e
  obtain ⟨q, e3, e4⟩ := Option.map_eq_some_iff.mp e
  subst e4
  have hm := List.mem_of_find?_eq_some e3
  have hp := List.find?_some e3
  have p1 := of_decide_eq_true hp
  have h2 := of_decide_eq_true (List.all_eq_true.mp h q hm)
  rw [p1] at h2
  exact h2
end Vl

namespace Vl
open PySem PySem.Spec PyProof.Rows L2 He
def clsB : Stmt → List Stmt
  | .ClassDef (body := b) .. => b
  | _ => []
section
variable {c : Vc} {X : Cx} {W : WX} {b : Bool} {bor : List Nat} {k n : Nat} {a e e' e'' o : Expr} {es : List Expr} {fa fb fc fo : FE} {fs : FG (List Val)} {pos apos p p2 : Pos} {x m : Str}
/-! ### the words of the printed walks -/
theorem takes_W0 : Takes X W0 := fun u s' ⟨a, B, sI, pins, σ, H, cls, d, e, I, nb, up, sky, na, os, ag, w⟩ => w.elim
theorem Room.un64 (h : Room k X.A) : X.A.units + 64 < cLine := h.units
theorem x_add (ha : VE c X W b a fa) (hb : VE c X W b e fb) (hK : X.K = c.K := by rfl) : VE c X W b (.BinOp a .Add e pos) (vOp gAdd fa fb) := ve_op (r := rAddG c.K) (by rw [← hK]; exact op_addG) s_add ha hb
theorem x_sub (ha : VE c X W b a fa) (hb : VE c X W b e fb) : VE c X W b (.BinOp a .Sub e pos) (vOp gSub fa fb) := ve_op (r := rSubI) op_sub s_sub ha hb
theorem x_mul (ha : VE c X W b a fa) (hb : VE c X W b e fb) : VE c X W b (.BinOp a .Mult e pos) (vOp gMul fa fb) := ve_op op_mulG s_mul ha hb
theorem x_fdiv (ha : VE c X W b a fa) (hb : VE c X W b e fb) : VE c X W b (.BinOp a .FloorDiv e pos) (vOp gFdiv fa fb) := ve_op op_fdivN s_fdiv ha hb
theorem x_mod (ha : VE c X W b a fa) (hb : VE c X W b e fb) : VE c X W b (.BinOp a .Mod e pos) (vOp gMod fa fb) := ve_op op_modN s_mod ha hb
theorem x_pow (ha : VE c X W b a fa) (hb : VE c X W b e fb) : VE c X W b (.BinOp a .Pow e pos) (vOp gPow fa fb) := ve_op op_pow s_pow ha hb
theorem x_ix (ha : VE c X W b a fa) (hb : VE c X W b e fb) (hp : PlainIx e := by intro _ _; rfl) (hK : X.K = c.K := by rfl) : VE c X W b (.Subscript a e pos) (vOp gIx fa fb) := ve_ix (r := rIx c.K) (by rw [← hK]; exact ix_seq) s_ix ha hb hp
theorem x_cut {lo hi : Option Expr} {fl fh : FO} (ha : VE c X W b a fa) (hl : VO c X W b lo fl) (hh : VO c X W b hi fh) (hK : X.K = c.K := by rfl) : VE c X W b (.Subscript a (.Slice lo hi none p2) pos) (vSl gCutL fa fl fh) := ve_slice (r := rSlL c.K) (by rw [← hK]; exact sl_list) s_cutL ha hl hh
/-- comparisons: what the operator is -/
structure CmpG (c : Vc) (X : Cx) (op : CmpOp) (r : R2) (g : D → D → Option Val) : Prop where
  o : OpR X (compareOp op) r
  s : OpS c r g
  sg : ∀ dx dy w, g dx dy = some w → ∃ k, w = .fr (.bl k)
abbrev gLt : D → D → Option Val := iBp fun i j => decide (i < j)
abbrev gLe : D → D → Option Val := iBp fun i j => decide (i ≤ j)
abbrev gGt : D → D → Option Val := iBp fun i j => decide (j < i)
abbrev gGe : D → D → Option Val := iBp fun i j => decide (j ≤ i)
theorem c_lt : CmpG c X .Lt (rI0 fun i j => .bl (decide (i < j))) gLt := ⟨op_lt, opS_b, iBp_bl⟩
theorem c_le : CmpG c X .LtE (rI0 fun i j => .bl (decide (i ≤ j))) gLe := ⟨op_le, opS_b, iBp_bl⟩
theorem c_gt : CmpG c X .Gt (rI0 fun i j => .bl (decide (j < i))) gGt := ⟨op_gt, opS_b, iBp_bl⟩
theorem c_ge : CmpG c X .GtE (rI0 fun i j => .bl (decide (j ≤ i))) gGe := ⟨op_ge, opS_b, iBp_bl⟩
theorem map_bl {α : Type} {o : Option α} {f : α → Bool} {w : Val} (h : o.map (fun k => Val.fr (.bl (f k))) = some w) : ∃ k, w = .fr (.bl k) := by
  obtain ⟨r, _, e⟩ := Option.map_eq_some_iff.mp h
  exact ⟨_, e.symm⟩
theorem c_eq (hr : Room k X.A) (hK : X.K = c.K := by rfl) : CmpG c X .Eq (rEqD c.K) gEq := ⟨by rw [← hK]; exact op_eqD hr.units, s_eq, fun _ _ _ h => map_bl h⟩
theorem c_ne (hr : Room k X.A) (hK : X.K = c.K := by rfl) : CmpG c X .NotEq (rNeD c.K) gNe := ⟨by rw [← hK]; exact op_neD hr.units, s_ne, fun _ _ _ h => map_bl h⟩
theorem isN_bl {neg : Bool} : ∀ dx dy w, gIsN neg dx dy = some w → ∃ k, w = .fr (.bl k) := fun dx dy w h => by
  unfold gIsN at h
  split at h
  · exact map_bl h
  · cases h
theorem c_is : CmpG c X .Is (fun x y H Q => y = .non ∧ Q (.bl (decide (x = .non))) H) (gIsN false) := ⟨op_isN, s_isN, isN_bl⟩
theorem c_isnot : CmpG c X .IsNot (fun x y H Q => y = .non ∧ Q (.bl (!decide (x = .non))) H) (gIsN true) := ⟨op_notN, s_notN, isN_bl⟩
variable {op op' : CmpOp} {r r' : R2} {g g' : D → D → Option Val}
theorem x_cmp (h : CmpG c X op r g) (ha : VE c X W b a fa) (hb : VE c X W b e fb) (hm : behindInMarks op e = false := by rfl) : VE c X W b (.Compare a [op] [e] pos) (vOp g fa fb) := ve_cmp h.o h.s ha hb hm
theorem t_cmp (h : CmpG c X op r g) (ha : VE c X W b a fa) (hb : VE c X W b e fb) (hm : behindInMarks op e = false := by rfl) : VT c X W b (.Compare a [op] [e] pos) (bnd (vOp g fa fb) asB) := vt_cmp h.o h.s ha hb hm
theorem x_ch (h : CmpG c X op r g) (h' : CmpG c X op' r' g') (ha : VE c X W b a fa) (hb : VE c X W b e fb) (hc : VE c X W b e' fc) (hm : lastMarks [op, op'] [e, e'] = false := by with_unfolding_all rfl) : VE c X W b (.Compare a [op, op'] [e, e'] pos) (vCh g g' fa fb fc) := ve_chain h.o h'.o h.s h'.s ha hb hc h.sg hm
theorem t_ch (h : CmpG c X op r g) (h' : CmpG c X op' r' g') (ha : VE c X W b a fa) (hb : VE c X W b e fb) (hc : VE c X W b e' fc) (hm : lastMarks [op, op'] [e, e'] = false := by with_unfolding_all rfl) : VT c X W b (.Compare a [op, op'] [e, e'] pos) (bnd (vCh g g' fa fb fc) asB) := vt_chain h.o h'.o h.s h'.s ha hb hc h.sg hm
theorem t_tru (ha : VE c X W b a fa) (hK : X.K = c.K := by rfl) (he : ∀ whole, isTrue a X.env whole = (do let v ← whole; standAt a.pos; holding [v] (truthy v)) := by intro _; rfl) : VT c X W b a (bnd fa asT) := vt_tru hK ha he
/-! -x -/
def vUn (g : D → Option Val) (fa : FE) : FE := bnd fa (v1 g)
def gNeg : D → Option Val
  | .int i => some (.fr (.int (-i)))
  | _ => none
theorem x_neg (ha : VE c X W b a fa) : VE c X W b (.UnaryOp .USub a pos) (vUn gNeg fa) := by
  obtain ⟨ta, pa, oa⟩ := ha
  refine ⟨_, pe_un un_neg pa, fun O fp H ρ σ Q S h => oa.thn S.tr S .refl (fun _ => .refl) h id fun w ρ1 u H1 O1 fp1 g1 _ S1 E1 _ I1 R1 F1 h1 => ?_⟩
  cases e1 : w1 gNeg w ρ1 with
  | none => simp only [v1, e1] at h1; exact h1.elim
  | some w' =>
    simp only [v1, e1] at h1
    obtain ⟨d, h2, h3⟩ := Option.bind_eq_some_iff.mp e1
    have pk := R1.vw S1 h2
    cases d with
    | int i =>
      cases h3
      exact ⟨i, pk, Post.pr h1 S.tr S1 E1 I1 (.same rfl)⟩
    | _ => cases h3
/-! built-ins -/
theorem x_len (hm : X.mg "len" = none) (ha : VA c X W b [e] fs) (hg : Gl X "len" := by rfl) (hK : X.K = c.K := by rfl) (he : starEach (e :: []) X.env = (false, eval e X.env) :: starEach [] X.env := by rfl) : VE c X W b (.Call (.Name "len" p) [e] [] pos) (vCall gLen fs) :=
  ve_callB (r := fun xs H Q => ∃ x n, xs = [x] ∧ LenV c.K x H n ∧ Q (.int n) H) (by rw [← hK]; exact call_len) s_len hg hm boot_len ha (by decide) (by decide) he
theorem x_int (hm : X.mg "int" = none) (ha : VA c X W b [e] fs) (hg : Gl X "int" := by rfl) (he : starEach (e :: []) X.env = (false, eval e X.env) :: starEach [] X.env := by rfl) : VE c X W b (.Call (.Name "int" p) [e] [] pos) (vCall gInt fs) :=
  ve_callT call_int1 s_int hg hm boot_int ha (by decide) (by decide) he
theorem x_list (hm : X.mg "list" = none) (ha : VA c X W b [e] fs) (hg : Gl X "list" := by rfl) (hK : X.K = c.K := by rfl) (he : starEach (e :: []) X.env = (false, eval e X.env) :: starEach [] X.env := by rfl) : VE c X W b (.Call (.Name "list" p) [e] [] pos) (vCall gList fs) :=
  ve_callT (r := fun xs H Q => ∃ p ys, xs = [.ref p] ∧ (SqL c.K H p ys ∨ SqT c.K H p ys) ∧ ∀ l, H l = none → Q (.ref l) (upd H l (.lst ys))) (by rw [← hK]; exact call_list_of) s_list hg hm boot_list ha (by decide) (by decide) he
theorem x_tuple (hm : X.mg "tuple" = none) (ha : VA c X W b [e] fs) (hg : Gl X "tuple" := by rfl) (hK : X.K = c.K := by rfl) (he : starEach (e :: []) X.env = (false, eval e X.env) :: starEach [] X.env := by rfl) : VE c X W b (.Call (.Name "tuple" p) [e] [] pos) (vCall gTuple fs) :=
  ve_callT (r := fun xs H Q => ∃ p ys, xs = [.ref p] ∧ ((SqL c.K H p ys ∧ ∀ l, H l = none → Q (.ref l) (upd H l (.tup ys))) ∨ (SqT c.K H p ys ∧ Q (.ref p) H))) (by rw [← hK]; exact call_tuple_of) s_tuple hg hm boot_tuple ha (by decide) (by decide) he
theorem bt_min : bootBuiltins "min" = some (.builtin "min") := by decide +kernel
theorem bt_max : bootBuiltins "max" = some (.builtin "max") := by decide +kernel
theorem bt_isi : bootBuiltins "isinstance" = some (.builtin "isinstance") := by decide +kernel
theorem bt_all : bootBuiltins "all" = some (.builtin "all") := by decide +kernel
theorem x_min (hc : X.calm = true) (hm : X.mg "min" = none) (ha : VA c X W b [e, e'] fs) (hg : Gl X "min" := by rfl) (he : starEach (e :: [e']) X.env = (false, eval e X.env) :: starEach [e'] X.env := by rfl) (hpl : (backTo pos (starEach [e'] X.env)).any (·.1) = false := by rfl) : VE c X W b (.Call (.Name "min" p) [e, e'] [] pos) (vCall gMin fs) :=
  ve_callB (call_min2 hc) s_min hg hm bt_min ha (by decide) (by decide) he hpl
theorem x_max (hc : X.calm = true) (hm : X.mg "max" = none) (ha : VA c X W b [e, e'] fs) (hg : Gl X "max" := by rfl) (he : starEach (e :: [e']) X.env = (false, eval e X.env) :: starEach [e'] X.env := by rfl) (hpl : (backTo pos (starEach [e'] X.env)).any (·.1) = false := by rfl) : VE c X W b (.Call (.Name "max" p) [e, e'] [] pos) (vCall gMax fs) :=
  ve_callB (call_max2 hc) s_max hg hm bt_max ha (by decide) (by decide) he hpl
theorem x_isi {kf : Tag → D → Option Bool} (hk : IsK c kf) (hm : X.mg "isinstance" = none) (ha : VA c X W b [e, e'] fs) (hg : Gl X "isinstance" := by rfl) (hK : X.K = c.K := by rfl) (he : starEach (e :: [e']) X.env = (false, eval e X.env) :: starEach [e'] X.env := by rfl) (hpl : (backTo pos (starEach [e'] X.env)).any (·.1) = false := by rfl) :
    VE c X W b (.Call (.Name "isinstance" p) [e, e'] [] pos) (vCall (gIsi kf) fs) :=
  ve_callB (r := rIsi c.K) (by rw [← hK]; exact call_isi) (s_isi hk) hg hm bt_isi ha (by decide) (by decide) he hpl
theorem x_append (ho : VE c X W false o fo) (ha : VA c X W false [e] fs) (hbase : attributeBase o "append" X.env (eval o X.env) = eval o X.env := by rfl) (hline : (apos.endLine == p.line) = true := by rfl) (hs : starEach (e :: []) X.env = (false, eval e X.env) :: starEach [] X.env := by rfl)
    (hfew : ((backTo p (starEach (e :: []) X.env)).all (fun x => !x.1) && (backToKw p (keywordEach [] X.env)).all (fun x => x.1.isSome)
      && decide ((e :: []).length + ([] : List Keyword).length + (if ([] : List Keyword).isEmpty then 0 else 1) < 30)) = true := by rfl) (hpl : (backTo p (starEach [] X.env)).any (·.1) = false := by rfl) : VE c X W false (.Call (.Attribute o "append" apos) [e] [] p) (vMu muAppend fo fs) :=
  ve_mu PySem.F.slot_list_append PySem.F.type_list_append mt_append s_append ho ha hbase hfew hline hs hpl
theorem x_seL {i : Expr} {fi : FE} (ha : VE c X W false a fa) (ho : VE c X W false o fo) (hi : VE c X W false i fi)
    (h0 : ∀ v, assign (.Subscript o i p2) X.env v = (do
      let ov ← holding [v] (eval o X.env)
      let iv ← holding [v, ov] (eval i X.env)
      standAt p2
      holding [v, ov, iv] (setItem ov iv v)
      release [v, ov, iv] []) := by intro _; rfl)
    (h1 : swapsWithSole [.Subscript o i p2] a pos.line X.env = pure false := by rfl) (h2 : swappedStores [.Subscript o i p2] a X.env = pure none := by rfl)
    (h3 : (assignEach [.Subscript o i p2] X.env).map (·.2) = [assign (.Subscript o i p2) X.env] := by rfl) : VS c X W bor (.Assign [.Subscript o i p2] a pos) (sSe seL fa fo fi) := vs_se set_list s_seL ha ho hi h0 h1 h2 h3
/-! comprehensions -/
theorem x_lc {elt tg iter : Expr} {ifs : List Expr} {scope : Scope} {own : List (Str × Nat)} {fi : FG (List D)} {gt : FT} {ft : FG Bool} {fe : FE} {vs : List Nat} (n : Nat) (hN : X.N.Nodup) (hv : own.map (·.2) = vs) (hi : VI c X W tg iter fi) (ok : blkC X.N X.env.scope scope own = true) (hgl : GLen gt)
    (hg : ∀ (s : Shared) (H : Hp) (C : Addr) (cl : List (Str × Addr)) (fp : List Addr), VG c (X.blk s H scope (compEnvC scope cl C X.env) fp) (others n vs) tg gt)
    (ht : ∀ (s : Shared) (H : Hp) (C : Addr) (cl : List (Str × Addr)) (fp : List Addr), VTs c (X.blk s H scope (compEnvC scope cl C X.env) fp) W0 false ifs ft)
    (he : ∀ (s : Shared) (H : Hp) (C : Addr) (cl : List (Str × Addr)) (fp : List Addr), VE c (X.blk s H scope (compEnvC scope cl C X.env) fp) W0 false elt fe)
    (hc : X.calm = true := by rfl) (hxs : ∀ v ∈ vs, v ∉ c.xs.map (·.i) := by exact nmAll rfl) (hs : ∀ x, foldedSetIterable iter X.env x = pure x := by intro _; rfl) : VE c X W false (.ListComp elt [⟨tg, iter, ifs, 0⟩] scope pos) (vLc n vs fi gt ft fe) := by
  subst hv
  exact ve_lc n hc hN hi (blkOk_by ok) hgl hg ht he hxs hs
theorem x_setLc {elt tg iter : Expr} {ifs : List Expr} {scope : Scope} {own : List (Str × Nat)} {fi : FG (List D)} {gt : FT} {ft : FG Bool} {fe : FE} {vs : List Nat} {i : Nat} {y : Str} {py spos : Pos} (n : Nat) (hN : X.N.Nodup) (hv : own.map (·.2) = vs) (hi : VI c X W tg iter fi) (ok : blkC X.N X.env.scope scope own = true) (hgl : GLen gt)
    (hg : ∀ (s : Shared) (H : Hp) (C : Addr) (cl : List (Str × Addr)) (fp : List Addr), VG c (X.blk s H scope (compEnvC scope cl C X.env) fp) (others n vs) tg gt)
    (ht : ∀ (s : Shared) (H : Hp) (C : Addr) (cl : List (Str × Addr)) (fp : List Addr), VTs c (X.blk s H scope (compEnvC scope cl C X.env) fp) W0 false ifs ft)
    (he : ∀ (s : Shared) (H : Hp) (C : Addr) (cl : List (Str × Addr)) (fp : List Addr), VE c (X.blk s H scope (compEnvC scope cl C X.env) fp) W0 false elt fe)
    (hy : X.N[i]? = some y := by rfl) (hyl : X.env.scope.names.lookup y = some .local := by rfl) (hsw : swapsWith (.ListComp elt [⟨tg, iter, ifs, 0⟩] scope pos) (some (.Name y py)) spos.line X.env = pure true := by exact sw_true rfl rfl rfl rfl)
    (hc : X.calm = true := by rfl) (hb : i ∉ bor := by decide) (hxi : i ∉ c.xs.map (·.i) := by exact nmIn rfl) (hxs : ∀ v ∈ vs, v ∉ c.xs.map (·.i) := by exact nmAll rfl) (hs : ∀ x, foldedSetIterable iter X.env x = pure x := by intro _; rfl) : VS c X W bor (.Assign [.Name y py] (.ListComp elt [⟨tg, iter, ifs, 0⟩] scope pos) spos) (sSet i (vLc n vs fi gt ft fe)) := by
  subst hv
  exact vs_setLc n hc hN hy hyl hsw hi (blkOk_by ok) hgl hg ht he hb hxi hxs hs
/-! what a suite asks of its exception -/
variable {a' : Addr} {oe : Obj} {d : Option Addr} {q : Option (Addr × List (Str × V) × List (Str × D))} {pn : List (Addr × Obj)} {y : Exn} {nm cn : Str} {i : Nat} {p1 : Pos}
theorem x_isEg {g : Str → Option Bool} (hz : Zc (.ref (c.cl y.n)) d oe) (hf : ∃ vs, oe.data = .fields vs) (h1 : ∀ l, q = some l → d = some l.1 ∧ l.2.2 = y.fs ∧ y.fs ≠ []) (h2 : q = none → y.fs = [] ∧ d = none) (hm : X.mg cn = some (.ref (c.cl cn))) (gm : X.mg "isinstance" = none)
    (hg : ∀ n b, g n = some b → ExcC c.K (c.cl n) ∧ PySem.W.kitOne c.K (.ref (c.cl n)) (.ref (c.cl cn)) = some b) (hK : X.K = c.K := by rfl) (hN : X.N[i]? = some nm := by rfl) (hv : Vis X.env.scope nm := by first | exact Or.inl rfl | exact Or.inr (Or.inl rfl)) (gl : Gl X "isinstance" := by rfl) (gc : Gl X cn := by rfl)
    (hd : (nm == ("__debug__" : Str)) = false := by decide) (hcd : (nm == ("__classdict__" : Str)) = false := by decide) (hdc : (cn == ("__debug__" : Str)) = false := by decide)
    (he : starEach [.Name nm p1, .Name cn p2] X.env = (false, eval (.Name nm p1) X.env) :: starEach [.Name cn p2] X.env := by rfl) (he2 : starEach [.Name cn p2] X.env = (false, eval (.Name cn p2) X.env) :: starEach [] X.env := by rfl) (hpl : (backTo pos (starEach [.Name cn p2] X.env)).any (·.1) = false := by rfl) :
    VE ⟨c.toVb, ⟨i, a', q⟩ :: c.xs⟩ (X.suite a' ((a', oe) :: pn)) W b (.Call (.Name "isinstance" p) [.Name nm p1, .Name cn p2] [] pos) (vIsE g y) :=
  ve_isE (u := .ref (c.cl cn)) hK hz hf h1 h2 hN hv (pe_glob (X := X.suite a' ((a', oe) :: pn)) (v := .ref (c.cl cn)) gc hm rfl hdc) (fun _ h => h) hg gl gm bt_isi hd hcd he he2 hpl
theorem x_isEt {g : Str → Option Bool} {T : String} (hz : Zc (.ref (c.cl y.n)) d oe) (hf : ∃ vs, oe.data = .fields vs) (h1 : ∀ l, q = some l → d = some l.1 ∧ l.2.2 = y.fs ∧ y.fs ≠ []) (h2 : q = none → y.fs = [] ∧ d = none) (hm : X.mg cn = none) (gm : X.mg "isinstance" = none) (hbt : bootBuiltins cn = some (.type T))
    (hg : ∀ n b, g n = some b → ExcC c.K (c.cl n) ∧ PySem.W.kitOne c.K (.ref (c.cl n)) (.type T) = some b) (hK : X.K = c.K := by rfl) (hN : X.N[i]? = some nm := by rfl) (hv : Vis X.env.scope nm := by first | exact Or.inl rfl | exact Or.inr (Or.inl rfl)) (gl : Gl X "isinstance" := by rfl) (gc : Gl X cn := by rfl)
    (hd : (nm == ("__debug__" : Str)) = false := by decide) (hcd : (nm == ("__classdict__" : Str)) = false := by decide) (hdc : (cn == ("__debug__" : Str)) = false := by decide) (hnn : cn ≠ "__name__" := by decide)
    (he : starEach [.Name nm p1, .Name cn p2] X.env = (false, eval (.Name nm p1) X.env) :: starEach [.Name cn p2] X.env := by rfl) (he2 : starEach [.Name cn p2] X.env = (false, eval (.Name cn p2) X.env) :: starEach [] X.env := by rfl) (hpl : (backTo pos (starEach [.Name cn p2] X.env)).any (·.1) = false := by rfl) :
    VE ⟨c.toVb, ⟨i, a', q⟩ :: c.xs⟩ (X.suite a' ((a', oe) :: pn)) W b (.Call (.Name "isinstance" p) [.Name nm p1, .Name cn p2] [] pos) (vIsE g y) :=
  ve_isE (u := .ty T) hK hz hf h1 h2 hN hv (pe_bltn (X := X.suite a' ((a', oe) :: pn)) (v := .ty T) gc hm hbt rfl hnn hdc) (fun _ h => h) hg gl gm bt_isi hd hcd he he2 hpl
/-! generator expressions without captured names -/
def gen0 (scope : Scope) (x : Str) : Bool := (match scope.kind with | .function => true | _ => false) && (!scope.isCoroutine && ((scope.names.all fun y => match y.2 with | .cell => false | .free => false | _ => true) && (decide (scope.names.lookup (".0" : Str) = some NameKind.local) && decide (scope.names.lookup x = some NameKind.local))))
theorem gen0_ok {scope : Scope} {x : Str} (h : gen0 scope x = true) : GxR.GenS X.env scope x ∧ FreeOk X scope := by
  obtain ⟨a1, h⟩ := ba h
  obtain ⟨a2, h⟩ := ba h
  obtain ⟨a3, h⟩ := ba h
  obtain ⟨a4, a5⟩ := ba h
  have nc : ∀ y ∈ scope.names, y.2 ≠ .cell := fun y hy e => by
    have q := List.all_eq_true.mp a3 y hy
    rw [e] at q
    cases q
  have nf : ∀ y ∈ scope.names, y.2 ≠ .free := fun y hy e => by
    have q := List.all_eq_true.mp a3 y hy
    rw [e] at q
    cases q
  refine ⟨⟨?_, by simpa using a2, nc, of_decide_eq_true a4, of_decide_eq_true a5, fun y hy e => absurd e (nf y hy)⟩, fun y hy e => absurd e (nf y hy)⟩
  split at a1
  · assumption
  · cases a1
theorem x_all0 {elt iter : Expr} {fe : Env → D → Option D} {cd P : Addr} {px gpos : Pos} {scope : Scope} (hr : Room k X.A) (hm : X.mg "all" = none) (TB : GxR.TabB X.base X.mg cd P) (hcode : X.env.code = .ref cd) (hP : c.tb P) (hg : gen0 scope x = true)
    (ha : VE c X W b iter fa) (hel : VQ c X scope x elt fe) (gl : Gl X "all" := by rfl) (hs : ∀ v, genFold iter X.env v = pure v := by intro _; rfl)
    (he : starEach [.GeneratorExp elt [⟨.Name x px, iter, [], 0⟩] scope gpos] X.env = (false, eval (.GeneratorExp elt [⟨.Name x px, iter, [], 0⟩] scope gpos) X.env) :: starEach [] X.env := by rfl) :
    VE c X W b (.Call (.Name "all" p) [.GeneratorExp elt [⟨.Name x px, iter, [], 0⟩] scope gpos] [] pos) (vAll fe fa) := ve_all hr gl hm bt_all TB hcode hP (gen0_ok hg).2 (gen0_ok hg).1 ha hel hs he
theorem x_any0 {elt iter : Expr} {fe : Env → D → Option D} {cd P : Addr} {px gpos : Pos} {scope : Scope} (hr : Room k X.A) (hm : X.mg "any" = none) (TB : GxR.TabB X.base X.mg cd P) (hcode : X.env.code = .ref cd) (hP : c.tb P) (hg : gen0 scope x = true)
    (ha : VE c X W b iter fa) (hel : VQ c X scope x elt fe) (gl : Gl X "any" := by rfl) (hs : ∀ v, genFold iter X.env v = pure v := by intro _; rfl)
    (he : starEach [.GeneratorExp elt [⟨.Name x px, iter, [], 0⟩] scope gpos] X.env = (false, eval (.GeneratorExp elt [⟨.Name x px, iter, [], 0⟩] scope gpos) X.env) :: starEach [] X.env := by rfl) :
    VE c X W b (.Call (.Name "any" p) [.GeneratorExp elt [⟨.Name x px, iter, [], 0⟩] scope gpos] [] pos) (vAny fe fa) := ve_any hr gl hm TB hcode hP (gen0_ok hg).2 (gen0_ok hg).1 ha hel hs he
end
end Vl

namespace Vl
open PySem PySem.Spec PyProof.Rows L2 He
/-- the law's end -/
theorem law_end {l : PySem.W.OpenLaw} {w : World} {K : PySem.W.Frag} {fas : List Fa} {fns : List DefD} {ts : List Tab} {tfs : List Defn} {exs : PySem.W.Frag → Bool} {h : Heap} {mg : Str → Option Value} {fa : Addr} {L i j : Nat} {d : DefD} {x nm : Str} {F : FF}
    (c : SaysX fas fns ts tfs exs w h K) (X : K.In h) (G : h.Ns mainGlobals mg) (hmg : mg nm = some (.ref fa)) (hi : fns[i]? = some d) (hj : fas[j]? = some (.glo nm)) (hat : d.at_ = (nm, none)) (hdf : d.dfl = [])
    (hb : ∀ (kV doc pm : Value) (an : Option Addr) (cdv ct : Value) (us : List Value), us.length = 1 → bindArgs (PySem.W.fnOf d.name d.qual d.params d.body d.scope .none kV doc pm an cdv ct) ⟨us, []⟩ = pure ([x].zip us))
    (ok : ∀ base : Heap, Zf fas fns tfs exs K mg base → DOk l.prog w (vbOf K tfs) mg base L (fAd K (nm, none)) [x] 1 F)
    (law : ∀ ns : List Int, ns.length ≤ 63 → (∀ z ∈ ns, Builtin.Int.intBits z ≤ 1048576) → ∃ ts', F [.fr (.klst (ns.map .int))] = some (.ret (.fr (.bl true)) ts')) : LamX.LawAtS l w K (L2.CX l.prog w) L 63 x mg fa h := by
  have sd : SaysD fas fns K := c.t.d
  obtain ⟨fd, Fd⟩ := sd.def_ i hi
  have e := hmg.symm.trans (glo_ok X G (sd.fact j hj))
  cases e
  have Fd' : FunD K d.name d.qual d.params d.body d.scope [] (d.kws K) (fAd K d.at_) fd := by
    have e : d.dvs K = [] := by unfold DefD.dvs; rw [hdf]; rfl
    rw [← e]
    exact Fd
  have mem : ∀ p ∈ tfs.map (cT K), ∃ q ∈ tfs, p = cT K q := fun p hp => by
    obtain ⟨q, h1, h2⟩ := List.mem_map.mp hp
    exact ⟨q, h1, h2.symm⟩
  refine ⟨fd, tfs.map (cT K), spV (vbOf K tfs) 1 F, fun p hp => ?_, fun p hp => ?_, fun p hp => ?_, fun s u => Fd'.bindsA (ps := [x]) hb s [u] rfl, fun H a ns hl hz hT hS => ?_, fun base KX Gb TB => ?_⟩
  · obtain ⟨q, hq, rfl⟩ := mem p hp
    exact c.empty q hq
  · obtain ⟨q, hq, rfl⟩ := mem p hp
    exact c.out q hq
  · obtain ⟨q, hq, rfl⟩ := mem p hp
    exact PySem.W.codeHd_of_K X (c.hd q hq)
  · obtain ⟨ts', e⟩ := law ns hl hz
    have rd : RDs (vbOf K tfs) (fun _ => False) H (ns.map .int) (ns.map V.int) := by
      clear hl hz e hS
      induction ns with
      | nil => exact (rfl : ([] : List V) = [])
      | cons n ns ih => exact ⟨.int n, _, rfl, rfl, ih⟩
    have kl : RD (vbOf K tfs) (fun _ => False) H (.klst (ns.map .int)) (.ref a) := by
      refine ⟨a, ns.map V.int, rfl, ?_, rd⟩
      rcases hS with q | q
      · refine .inr ⟨?_, fun z => z⟩
        rcases q with q | ⟨o, q⟩
        · rw [q]; rfl
        · rw [q]; rfl
      · exact .inl q
    refine ⟨rfl, fun _ => False, [], [.fr (.klst (ns.map .int))], ⟨.ref a, [], [], [], rfl, ⟨kl, rfl⟩, ⟨rfl, rfl⟩, rfl⟩, .nil, fun _ q => (by cases q), fun _ q => q.elim, fun P hP => ?_, ?_⟩
    · obtain ⟨p, hp, rfl⟩ := hP
      exact ⟨#[], hT (cT K p) (List.mem_map.mpr ⟨p, hp, rfl⟩), trivial⟩
    · rw [e]
      intro u H' O' fp' g _ _ _ _ _ _ r _
      exact r.1
  · have z : Zf fas fns tfs exs K mg base := ⟨fun i f h => sd.fact i h, fun i d h => sd.def_ i h, c.more, KX, Gb, fun p hp => by
      have t := TB (cT K p) (List.mem_map.mpr ⟨p, hp, rfl⟩)
      exact ⟨t.code, t.bm, t.gP⟩⟩
    obtain ⟨⟨fd', Fk, _, oc, od, osl, lk⟩, _⟩ := ok base z
    obtain ⟨oc2, od2, _, _, _, _, _, _, _, osl2, _, lk2, _⟩ := Fd.ex
    rw [hat] at lk2
    have e := lk.symm.trans lk2
    cases e
    exact Fk
theorem cx_no {P : Program} {w : World} {H : Hp} {s : Shared} {e : Value} {s' : Shared} (h : L2.CX P w [] H s (fun _ _ _ => False) e s') : False := by
  obtain ⟨_, _, _, _, _, _, _, _, _, _, _, _, q⟩ := h
  exact q
end Vl

namespace Vl
open PySem PySem.Spec PyProof.Rows L2 He
/-! ### how the functions over values go, for simp -/
section
variable {α β : Type} {f : FG α} {k : α → FG β} {ρ : Env} {fa fb fc fo : FE} {fs : FG (List Val)} {g g' : D → D → Option Val} {ft fu : FG Bool} {p q : FS}
@[simp] theorem e_bnd : bnd f k ρ = match f ρ with | none => none | some (.exc x ρ') => some (.exc x ρ') | some (.val a ρ') => k a ρ' := rfl
@[simp] theorem e_ret {a : α} : Vl.ret a ρ = some (.val a ρ) := rfl
@[simp] theorem e_c {d : D} : vC d ρ = some (.val (.fr d) ρ) := rfl
@[simp] theorem e_v {i : Nat} : vV i ρ = match ρ[i]? with | some (some (.fr d)) => some (.val (.fr d) ρ) | some (some _) => some (.val (.al i) ρ) | _ => none := rfl
@[simp] theorem e_v2 {x y : Val} : v2 g x y ρ = match w2 g x y ρ with | some w => some (.val w ρ) | none => none := rfl
@[simp] theorem e_w2 {x y : Val} : w2 g x y ρ = (vw ρ x).bind fun dx => (vw ρ y).bind fun dy => g dx dy := rfl
@[simp] theorem e_op : vOp g fa fb ρ = (bnd fa fun x => bnd fb fun y => v2 g x y) ρ := rfl
@[simp] theorem e_vw_fr {d : D} : vw ρ (.fr d) = some d := rfl
@[simp] theorem e_vw_nw {t : T} : vw ρ (.nw t) = t.pk := rfl
@[simp] theorem e_vw_al {i : Nat} : vw ρ (.al i) = match ρ[i]? with | some (some t) => t.pk | _ => none := rfl
@[simp] theorem e_pk_fr {d : D} : (T.fr d).pk = some d := rfl
@[simp] theorem e_pk_lst {xs : List D} : (T.lst xs).pk = some (.lst xs) := rfl
@[simp] theorem e_pk_dK {xs : List (Key × D)} : (T.dK xs).pk = some (.dK xs) := rfl
@[simp] theorem e_fz_fr {d : D} : fz (.fr d) = some d := rfl
@[simp] theorem e_fz_nw {t : T} : fz (.nw t) = some t.toD := rfl
@[simp] theorem e_fz_al {i : Nat} : fz (.al i) = none := rfl
@[simp] theorem e_toD_fr {d : D} : (T.fr d).toD = d := by rw [T.toD]
@[simp] theorem e_toD_lst {xs : List D} : (T.lst xs).toD = .lst xs := by rw [T.toD]
@[simp] theorem e_toD_dK {xs : List (Key × D)} : (T.dK xs).toD = .dK xs := by rw [T.toD]
@[simp] theorem e_toD_obj {n : Str} {xs : List (Str × T)} : (T.obj n xs).toD = .obj n (T.toDf xs) := by rw [T.toD]
@[simp] theorem e_toDf_nil : T.toDf [] = [] := by rw [T.toDf]
@[simp] theorem e_toDf_cons {n : Str} {t : T} {xs : List (Str × T)} : T.toDf ((n, t) :: xs) = (n, t.toD) :: T.toDf xs := by rw [T.toDf]
@[simp] theorem e_asB {b : Bool} : asB (.fr (.bl b)) ρ = some (.val b ρ) := rfl
@[simp] theorem e_asT {x : Val} : asT x ρ = match (vw ρ x).bind dTru with | some k => some (.val k ρ) | none => none := rfl
@[simp] theorem e_tru_bl {b : Bool} : dTru (.bl b) = some b := rfl
@[simp] theorem e_tru_int {i : Int} : dTru (.int i) = some (i != 0) := rfl
@[simp] theorem e_tru_lst {xs : List D} : dTru (.lst xs) = some (!xs.isEmpty) := rfl
@[simp] theorem e_tru_non : dTru .non = some false := rfl
@[simp] theorem e_and : vAnd ft fu ρ = (bnd ft fun k => if k then fu else Vl.ret false) ρ := rfl
@[simp] theorem e_or : vOr ft fu ρ = (bnd ft fun k => if k then Vl.ret true else fu) ρ := rfl
@[simp] theorem e_not : vNot ft ρ = (bnd ft fun k => Vl.ret (!k)) ρ := rfl
@[simp] theorem e_andV : vAndV fa fb ρ = (bnd (bnd fa asB) fun k => if k then fb else Vl.ret (.fr (.bl false))) ρ := rfl
@[simp] theorem e_orV : vOrV fa fb ρ = (bnd (bnd fa asB) fun k => if k then Vl.ret (.fr (.bl true)) else fb) ρ := rfl
@[simp] theorem e_notV : vNotV fa ρ = (bnd (bnd fa asB) fun k => Vl.ret (.fr (.bl (!k)))) ρ := rfl
@[simp] theorem e_if : vIf ft fa fb ρ = (bnd ft fun k => if k then fa else fb) ρ := rfl
@[simp] theorem e_ch : vCh g g' fa fb fc ρ = (bnd fa fun x => bnd fb fun y => bnd (v2 g x y) fun z => bnd (asB z) fun k => if k then bnd fc fun w => v2 g' y w else Vl.ret (.fr (.bl false))) ρ := rfl
@[simp] theorem e_nil : vNil ρ = (Vl.ret []) ρ := rfl
@[simp] theorem e_cons : vCons fa fs ρ = (bnd fa fun x => bnd fs fun xs => Vl.ret (x :: xs)) ρ := rfl
@[simp] theorem e_call {h : List D → Option Val} : vCall h fs ρ = (bnd fs fun ws => vn h ws) ρ := rfl
@[simp] theorem e_vn {h : List D → Option Val} {ws : List Val} : vn h ws ρ = match (vws ρ ws).bind h with | some w => some (.val w ρ) | none => none := rfl
@[simp] theorem e_vws_nil : vws ρ [] = some [] := rfl
@[simp] theorem e_vws_cons {w : Val} {ws : List Val} : vws ρ (w :: ws) = (vw ρ w).bind fun d => (vws ρ ws).map fun ds => d :: ds := rfl
@[simp] theorem e_fzs_nil : fzs [] = some [] := rfl
@[simp] theorem e_fzs_cons {w : Val} {ws : List Val} : fzs (w :: ws) = (fz w).bind fun d => (fzs ws).map fun ds => d :: ds := rfl
@[simp] theorem e_lst : vLst fs ρ = (bnd fs kLst) ρ := rfl
@[simp] theorem e_tup : vTup fs ρ = (bnd fs kTup) ρ := rfl
@[simp] theorem e_klst {ws : List Val} : kLst ws ρ = match fzs ws with | some ds => if ds.length ≤ 1000 then some (.val (.nw (.lst ds)) ρ) else none | none => none := rfl
@[simp] theorem e_ktup {ws : List Val} : kTup ws ρ = match fzs ws with | some ds => if ds.length ≤ 1000 then some (.val (.fr (.tup ds)) ρ) else none | none => none := rfl
@[simp] theorem e_un {h : D → Option Val} : vUn h fa ρ = (bnd fa (v1 h)) ρ := rfl
@[simp] theorem e_v1 {h : D → Option Val} {x : Val} : v1 h x ρ = match (vw ρ x).bind h with | some w => some (.val w ρ) | none => none := rfl
@[simp] theorem e_fld {nm fl : Str} : vFld nm fl fa ρ = (bnd fa (v1 (dFld nm fl))) ρ := rfl
@[simp] theorem e_seq : sSeq p q ρ = onNx (p ρ) q := rfl
@[simp] theorem e_on_nx {k : FS} : onNx (some (.nx ρ)) k = k ρ := rfl
@[simp] theorem e_on_ret {k : FS} {w : Val} : onNx (some (.ret w ρ)) k = some (.ret w ρ) := rfl
@[simp] theorem e_on_exc {k : FS} {x : Exn} : onNx (some (.exc x ρ)) k = some (.exc x ρ) := rfl
@[simp] theorem e_on_brk {k : FS} : onNx (some (.brk ρ)) k = some (.brk ρ) := rfl
@[simp] theorem e_on_cnt {k : FS} : onNx (some (.cnt ρ)) k = some (.cnt ρ) := rfl
@[simp] theorem e_sNil : sNil ρ = some (.nx ρ) := rfl
@[simp] theorem e_exS {k : α → FS} : exS f k ρ = match f ρ with | none => none | some (.exc x ρ') => some (.exc x ρ') | some (.val a ρ') => k a ρ' := rfl
@[simp] theorem e_sSet {i : Nat} : sSet i fa ρ = (exS fa (kSet i)) ρ := rfl
@[simp] theorem e_sSetF {i : Nat} : sSetF i fa ρ = (exS fa (kSetF i)) ρ := rfl
@[simp] theorem e_kSet_fr {i : Nat} {d : D} : kSet i (.fr d) ρ = if i < ρ.length then some (.nx (ρ.set i (some (.fr d)))) else none := rfl
@[simp] theorem e_kSet_nw {i : Nat} {t : T} : kSet i (.nw t) ρ = if i < ρ.length then some (.nx (ρ.set i (some t))) else none := rfl
@[simp] theorem e_kSetF {i : Nat} {w : Val} : kSetF i w ρ = if i < ρ.length then match fz w with | some d => some (.nx (ρ.set i (some (.fr d)))) | none => none else none := rfl
@[simp] theorem e_sIf : sIf ft p q ρ = (exS ft fun k => if k then p else q) ρ := rfl
@[simp] theorem e_sRet : sRet fa ρ = (exS fa fun w ρ => some (.ret w ρ)) ρ := rfl
@[simp] theorem e_sDrop : sDrop fa ρ = (exS fa fun _ => sNil) ρ := rfl
@[simp] theorem e_sRaise {n : Str} : sRaise n ρ = some (.exc ⟨n, []⟩ ρ) := rfl
@[simp] theorem e_mu {h : T → List D → Option (D × T)} : vMu h fo fs ρ = (bnd fo fun x ρ => if isOwnL x ρ then bnd fs (fun ws => kMu h x ws) ρ else none) ρ := rfl
@[simp] theorem e_isOwnL {i : Nat} : isOwnL (.al i) ρ = match ρ[i]? with | some (some (.lst _)) => true | _ => false := rfl
@[simp] theorem e_kMu {h : T → List D → Option (D × T)} {i : Nat} {ws : List Val} : kMu h (.al i) ws ρ = match ρ[i]?, fzs ws with | some (some t), some ds => (match h t ds with | some (w, t') => some (.val (.fr w) (ρ.set i (some t'))) | none => none) | _, _ => none := rfl
@[simp] theorem e_append {xs : List D} {d : D} : muAppend (.lst xs) [d] = if szL xs.length then some (.non, .lst (xs ++ [d])) else none := rfl
@[simp] theorem e_sSe {h : T → D → D → Option T} {fi : FE} : sSe h fa fo fi ρ = (exS fa fun w => exS fo fun x => exS fi fun y => kSe h w x y) ρ := rfl
@[simp] theorem e_kSe {h : T → D → D → Option T} {w y : Val} {i : Nat} : kSe h w (.al i) y ρ = match ρ[i]?, fz w, vw ρ y with | some (some t), some dv, some di => (match h t di dv with | some t' => some (.nx (ρ.set i (some t'))) | none => none) | _, _, _ => none := rfl
@[simp] theorem e_sFs {r : Bool} {nm fn : Str} : sFs r nm fn fa fo ρ = (exS fa fun w => exS fo fun x => kFs r nm fn w x) ρ := rfl
@[simp] theorem e_kFs {r : Bool} {nm fn : Str} {w : Val} {i : Nat} : kFs r nm fn w (.al i) ρ = match ρ[i]?, mvT r w with | some (some (.obj n fs)), some t => (if n = nm ∧ fs.length < 1000 then some (.nx (ρ.set i (some (.obj n (putT fn t fs))))) else none) | _, _ => none := rfl
@[simp] theorem e_mv_fr {r : Bool} {d : D} : mvT r (.fr d) = some (.fr d) := rfl
@[simp] theorem e_mv_nw {t : T} : mvT false (.nw t) = some t := rfl
@[simp] theorem e_callG {n : Nat} {F : FF} : vCallG n F fs ρ = (bnd fs fun ws => if ws.length = n then kCallB F ws else fun _ => none) ρ := rfl
@[simp] theorem e_kCallB {F : FF} {ws : List Val} : kCallB F ws ρ = match takeA ρ ws with | some (ts, ρ1) => (match F ts with | some (.ret w ts') => some (.val (toVal w) (giveA ρ1 ws ts')) | some (.exc x ts') => some (.exc x (giveA ρ1 ws ts')) | none => none) | none => none := rfl
@[simp] theorem e_take_nil : takeA ρ [] = some ([], ρ) := rfl
@[simp] theorem e_take_fr {d : D} {ws : List Val} : takeA ρ (.fr d :: ws) = (takeA ρ ws).map fun q => (.fr d :: q.1, q.2) := rfl
@[simp] theorem e_take_nw {t : T} {ws : List Val} : takeA ρ (.nw t :: ws) = (takeA ρ ws).map fun q => (.fr t.toD :: q.1, q.2) := rfl
@[simp] theorem e_take_al {i : Nat} {ws : List Val} : takeA ρ (.al i :: ws) = match ρ[i]? with | some (some t) => (takeA (ρ.set i none) ws).map fun q => (t :: q.1, q.2) | _ => none := rfl
@[simp] theorem e_give_nil {ts : List T} : giveA ρ [] ts = ρ := by cases ts <;> rfl
@[simp] theorem e_give_fr {d : D} {ws : List Val} {t : T} {ts : List T} : giveA ρ (.fr d :: ws) (t :: ts) = giveA ρ ws ts := rfl
@[simp] theorem e_give_nw {d : T} {ws : List Val} {t : T} {ts : List T} : giveA ρ (.nw d :: ws) (t :: ts) = giveA ρ ws ts := rfl
@[simp] theorem e_give_al {i : Nat} {ws : List Val} {t : T} {ts : List T} : giveA ρ (.al i :: ws) (t :: ts) = giveA (ρ.set i (some t)) ws ts := rfl
@[simp] theorem e_toVal_fr {d : D} : toVal (.fr d) = .fr d := rfl
@[simp] theorem e_toVal_lst {d : List D} : toVal (.lst d) = .nw (.lst d) := rfl
@[simp] theorem e_toVal_obj {n : Str} {d : List (Str × T)} : toVal (.obj n d) = .nw (.obj n d) := rfl
@[simp] theorem e_methG {nm m : Str} {n : Nat} {F : FF} : vMethG nm m n F fo fs ρ = (bnd fo fun x ρ => if isObjB nm m x ρ then bnd fs (fun ws => if (x :: ws).length = n then kCallB F (x :: ws) else fun _ => none) ρ else none) ρ := rfl
@[simp] theorem e_isObjB_fr {nm m n : Str} {fs : List (Str × D)} : isObjB nm m (.fr (.obj n fs)) ρ = (decide (n = nm) && (fs.lookup m).isNone) := rfl
@[simp] theorem e_isObjB_nw {nm m n : Str} {fs : List (Str × T)} : isObjB nm m (.nw (.obj n fs)) ρ = (decide (n = nm) && (fs.lookup m).isNone) := rfl
@[simp] theorem e_isObjB_al {nm m : Str} {i : Nat} : isObjB nm m (.al i) ρ = match ρ[i]? with | some (some (.obj n fs)) => decide (n = nm) && (fs.lookup m).isNone | _ => false := rfl
@[simp] theorem e_makeG {nm : Str} {n : Nat} {F : FF} : vMakeG nm n F fs ρ = (bnd fs fun ws => if ws.length + 1 = n then kMakeB nm F ws else fun _ => none) ρ := rfl
@[simp] theorem e_kMakeB {nm : Str} {F : FF} {ws : List Val} : kMakeB nm F ws ρ = match takeA ρ ws with
  | some (ts, ρ1) => (match F (.obj nm [] :: ts) with
    | some (.ret (.fr .non) (t :: ts')) => if t.isOwn then some (.val (.nw t) (giveA ρ1 ws ts')) else none
    | some (.exc x (_ :: ts')) => some (.exc x (giveA ρ1 ws ts'))
    | _ => none)
  | none => none := rfl
@[simp] theorem e_eqO {nm : Str} {F : FF} : vEqO nm F fb fc ρ = (bnd fb fun x => bnd fc fun y => kEqO nm F x y) ρ := rfl
@[simp] theorem e_kEqO {nm : Str} {F : FF} {x y : Val} : kEqO nm F x y ρ = if isObjB nm "" x ρ && isObjB nm "" y ρ then (match kCallB F [x, y] ρ with | some (.val (.fr (.bl k)) ρ') => some (.val (.fr (.bl k)) ρ') | _ => none) else none := rfl
@[simp] theorem e_own_fr {d : D} : (T.fr d).isOwn = false := rfl
@[simp] theorem e_own_lst {d : List D} : (T.lst d).isOwn = true := rfl
@[simp] theorem e_own_obj {n : Str} {d : List (Str × T)} : (T.obj n d).isOwn = true := rfl
@[simp] theorem e_lt {i j : Int} : gLt (.int i) (.int j) = some (.fr (.bl (decide (i < j)))) := rfl
@[simp] theorem e_le {i j : Int} : gLe (.int i) (.int j) = some (.fr (.bl (decide (i ≤ j)))) := rfl
@[simp] theorem e_gt {i j : Int} : gGt (.int i) (.int j) = some (.fr (.bl (decide (j < i)))) := rfl
@[simp] theorem e_ge {i j : Int} : gGe (.int i) (.int j) = some (.fr (.bl (decide (j ≤ i)))) := rfl
@[simp] theorem e_add {i j : Int} : gAdd (.int i) (.int j) = some (.fr (.int (i + j))) := rfl
@[simp] theorem e_addL {xs ys : List D} : gAdd (.lst xs) (.lst ys) = if szB (xs.length + ys.length) then some (.nw (.lst (xs ++ ys))) else none := rfl
@[simp] theorem e_sub {i j : Int} : gSub (.int i) (.int j) = some (.fr (.int (i - j))) := rfl
@[simp] theorem e_mod {i j : Int} : gMod (.int i) (.int j) = if decide (j ≠ 0) = true then some (.fr (.int (i.fmod j))) else none := rfl
@[simp] theorem e_fdiv {i j : Int} : gFdiv (.int i) (.int j) = if (decide (j ≠ 0) && decide (j.natAbs < 1073741824)) = true then some (.fr (.int (i.fdiv j))) else none := rfl
theorem gMul_ev {i j : Int} (h : big64 i j = true) : gMul (.int i) (.int j) = some (.fr (.int (i * j))) := by simp [gMul, gMulI, iOp, h]
@[simp] theorem e_eqi {i j : Int} : gEq (.int i) (.int j) = some (.fr (.bl (i == j))) := by
  simp [gEq, eqD, D.py, SeqAt.shaped, PyData.eqv, PyData.canLay0, PyData.depth]
@[simp] theorem e_nei {i j : Int} : gNe (.int i) (.int j) = some (.fr (.bl (!(i == j)))) := by
  simp [gNe, eqD, D.py, SeqAt.shaped, PyData.eqv, PyData.canLay0, PyData.depth]
@[simp] theorem e_len {xs : List D} : gLen [.lst xs] = some (.fr (.int xs.length)) := rfl
@[simp] theorem e_lenK {xs : List D} : gLen [.klst xs] = some (.fr (.int xs.length)) := rfl
@[simp] theorem e_int {i : Int} : gInt [.int i] = some (.fr (.int i)) := rfl
@[simp] theorem e_list {xs : List D} : gList [.lst xs] = some (.nw (.lst xs)) := rfl
@[simp] theorem e_listK {xs : List D} : gList [.klst xs] = some (.nw (.lst xs)) := rfl
@[simp] theorem e_min {i j : Int} : gMin [.int i, .int j] = some (.fr (.int (if j < i then j else i))) := rfl
@[simp] theorem e_neg {i : Int} : gNeg (.int i) = some (.fr (.int (-i))) := rfl
@[simp] theorem e_ixL {xs : List D} {i : Int} : gIx (.lst xs) (.int i) = (L2.atI xs i).map .fr := rfl
@[simp] theorem e_fldo {nm fl n : Str} {fs : List (Str × D)} : dFld nm fl (.obj n fs) = if n = nm then (fs.lookup fl).map .fr else none := rfl
@[simp] theorem e_szL {n : Nat} : szL n = decide (n < 16777216) := rfl
@[simp] theorem e_szB {n : Nat} : szB n = decide (n ≤ 16777216) := rfl
@[simp] theorem e_sl {h : D → Option Int → Option Int → Option Val} {fl fh : FO} : vSl h fa fl fh ρ = (bnd fa fun x => bnd fl fun lo => bnd fh fun hi => v3 h x lo hi) ρ := rfl
@[simp] theorem e_v3 {h : D → Option Int → Option Int → Option Val} {x : Val} {lo hi : Option Int} : v3 h x lo hi ρ = match (vw ρ x).bind fun d => h d lo hi with | some w => some (.val w ρ) | none => none := rfl
@[simp] theorem e_asI {i : Int} : asI (.fr (.int i)) ρ = some (.val (some i) ρ) := rfl
@[simp] theorem e_cutL {xs : List D} {lo hi : Option Int} : gCutL (.lst xs) lo hi = some (.nw (.lst (cutD xs lo hi))) := rfl
@[simp] theorem e_optF {o : Option α} : optF o ρ = match o with | some a => some (.val a ρ) | none => none := rfl
@[simp] theorem e_gN {i : Nat} {d : D} : gN i d ρ = if i < ρ.length then some (ρ.set i (some (.fr d))) else none := rfl
end
/-! ### lists of ints -/
def I (xs : List Int) : List D := xs.map .int
@[simp] theorem I_len {xs : List Int} : (I xs).length = xs.length := by simp [I]
theorem I_get {xs : List Int} {i : Nat} : (I xs)[i]? = (xs[i]?).map D.int := by simp [I]
theorem atI_nat' {α : Type} {xs : List α} {i : Int} {n : Nat} (h : i = n) (hn : n < xs.length) : L2.atI xs i = some xs[n] := by
  subst h
  exact L2.atI_nat (List.getElem?_eq_getElem hn)
theorem atI_I {xs : List Int} {i : Int} (h0 : 0 ≤ i) (h1 : i < xs.length) : L2.atI (I xs) i = some (.int (xs[i.toNat]'(by omega))) := by
  obtain ⟨n, rfl⟩ := Int.eq_ofNat_of_zero_le h0
  have hn : n < xs.length := by omega
  rw [L2.atI_nat (v := .int xs[n]) (by rw [I_get, List.getElem?_eq_getElem hn]; rfl)]
  rfl
theorem seL_I {xs : List Int} {i v : Int} (h0 : 0 ≤ i) (h1 : i < xs.length) : seL (.lst (I xs)) (.int i) (.int v) = some (.lst (I (xs.set i.toNat v))) := by
  obtain ⟨n, rfl⟩ := Int.eq_ofNat_of_zero_le h0
  have hn : n < xs.length := by omega
  simp [seL, L2.ixN, I, hn, List.map_set]
theorem pys_I {xs : List Int} : D.pys (I xs) = some (xs.map PyData.int) := by
  induction xs with
  | nil => rfl
  | cons x xs ih =>
    show (D.py (.int x)).bind (fun p => (D.pys (I xs)).map fun ps => p :: ps) = _
    rw [ih]
    rfl
theorem eqv_I {xs ys : List Int} : PyData.eqvAll (xs.map PyData.int) (ys.map PyData.int) = decide (xs = ys) := by
  induction xs generalizing ys with
  | nil => cases ys <;> simp [PyData.eqvAll]
  | cons x xs ih =>
    cases ys with
    | nil => simp [PyData.eqvAll]
    | cons y ys =>
      simp only [List.map_cons, PyData.eqvAll, ih, PyData.eqv]
      by_cases h : x = y <;> simp [h]
theorem can_I {xs : List Int} : PyData.canLayAll0 (xs.map PyData.int) = true := by
  induction xs with
  | nil => rfl
  | cons x xs ih => simp [PyData.canLayAll0, PyData.canLay0, ih]
theorem dep_I {xs : List Int} : PyData.depthAll (xs.map PyData.int) ≤ 1 := by
  induction xs with
  | nil => simp [PyData.depthAll]
  | cons x xs ih => simp [PyData.depthAll, PyData.depth]; omega
theorem shaped_I {xs : List Int} : SeqAt.shaped (.list (xs.map PyData.int)) = true := by
  have := @dep_I xs
  simp [SeqAt.shaped, PyData.canLay0, can_I, PyData.depth]
  omega
theorem eqD_I {xs ys : List Int} : eqD (.lst (I xs)) (.lst (I ys)) = some (decide (xs = ys)) := by
  unfold eqD
  have h1 : (D.lst (I xs)).py = some (.list (xs.map PyData.int)) := by show (D.pys (I xs)).map PyData.list = _; rw [pys_I]; rfl
  have h2 : (D.lst (I ys)).py = some (.list (ys.map PyData.int)) := by show (D.pys (I ys)).map PyData.list = _; rw [pys_I]; rfl
  rw [h1, h2]
  simp [shaped_I, PyData.eqv, eqv_I]
@[simp] theorem e_eqI {xs ys : List Int} : gEq (.lst (I xs)) (.lst (I ys)) = some (.fr (.bl (decide (xs = ys)))) := by simp [gEq, eqD_I]
@[simp] theorem e_neI {xs ys : List Int} : gNe (.lst (I xs)) (.lst (I ys)) = some (.fr (.bl (!decide (xs = ys)))) := by simp [gNe, eqD_I]
theorem cut_I {xs : List Int} {lo hi : Option Int} : cutD (I xs) lo hi = I ((xs.drop (HT.sIx xs.length 0 lo)).take (HT.sIx xs.length xs.length hi - HT.sIx xs.length 0 lo)) := by
  unfold cutD I
  rw [List.length_map, List.map_take, List.map_drop]
theorem I_app {xs ys : List Int} : I xs ++ I ys = I (xs ++ ys) := by simp [I]
theorem I_cons {x : Int} {ys : List Int} : D.int x :: I ys = I (x :: ys) := rfl
theorem I_nil : ([] : List D) = I [] := rfl
theorem rng_I {n : Nat} : rngD 0 n = I ((List.range n).map fun (i : Nat) => (i : Int)) := by simp [rngD, I]
theorem allM_I {g : D → Option Bool} {p : Int → Bool} {xs : List Int} (h : ∀ x, g (.int x) = some (p x)) : allM g (I xs) = some (xs.all p) := by
  induction xs with
  | nil => rfl
  | cons x xs ih =>
    show (g (.int x)).bind (fun k => (allM g (I xs)).map fun r => k && r) = _
    rw [h, ih]
    rfl
theorem dR1_nat {n : Nat} (h : n ≤ 1000000) : dR1 [.fr (.int (n : Int))] = some (rngD 0 n) := by
  have hs : small62 (n : Int) = true := by
    unfold small62
    rw [decide_eq_true (by omega)]
  unfold dR1
  simp only [hs, if_true, Int.toNat_natCast]
/-! ### loops, comprehensions -/
theorem compD_map {vs : List Nat} {gt : FT} {ft : FG Bool} {fe : FE} {ρ : Env} {h : D → D} : ∀ {ds acc : List D}, (∀ d ∈ ds, stepC vs gt ft fe d ρ = some (some (h d), ρ)) → acc.length + ds.length ≤ 16777216 → compD vs gt ft fe ds acc ρ = some (acc ++ ds.map h, ρ)
  | [], acc, _, _ => by simp [compD]
  | d :: ds, acc, hs, hl => by
    have h1 := hs d List.mem_cons_self
    have hl' : acc.length + (ds.length + 1) ≤ 16777216 := by simpa using hl
    have ih := compD_map (ds := ds) (acc := acc ++ [h d]) (fun d hd => hs d (List.mem_cons_of_mem _ hd)) (by simp; omega)
    unfold compD
    rw [h1]
    have hz : szL acc.length = true := by simp; omega
    simp only [hz, if_true, ih]
    simp
theorem loop_inv {gt : FT} {f : FS} (R : Env → Prop) : ∀ {ds : List D}, (∀ d ∈ ds, ∀ ρ, R ρ → ∃ ρ1 ρ2, gt d ρ = some ρ1 ∧ f ρ1 = some (.nx ρ2) ∧ R ρ2) → ∀ {ρ : Env}, R ρ → ∃ ρ', loopD gt f ds ρ = some (.nx ρ') ∧ R ρ'
  | [], _, ρ, r => ⟨ρ, rfl, r⟩
  | d :: ds, h, ρ, r => by
    obtain ⟨ρ1, ρ2, h1, h2, h3⟩ := h d List.mem_cons_self ρ r
    obtain ⟨ρ', q1, q2⟩ := loop_inv R (ds := ds) (fun d hd => h d (List.mem_cons_of_mem _ hd)) h3
    exact ⟨ρ', by unfold loopD; rw [h1]; simp only [h2]; exact q1, q2⟩
theorem seq_nx {f g : FS} {ρ ρ' : Env} (h : f ρ = some (.nx ρ')) : sSeq f g ρ = g ρ' := by unfold sSeq onNx; rw [h]
theorem seq_ret {f g : FS} {ρ ρ' : Env} {w : Val} (h : f ρ = some (.ret w ρ')) : sSeq f g ρ = some (.ret w ρ') := by unfold sSeq onNx; rw [h]
theorem for_val {fi : FG (List D)} {gt : FT} {f : FS} {ρ ρ1 : Env} {ds : List D} (h : fi ρ = some (.val ds ρ1)) : sFor fi gt f ρ = loopD gt f ds ρ1 := by unfold sFor exS; rw [h]
theorem body_ret {n : Nat} {bor : List Nat} {g : FS} {ts ts' : List T} {w : Val} {ρ ρ2 : Env} {t : T} (ho : ownsOk bor ts = true) (h : g (ts.map some ++ List.replicate (n - ts.length) none) = some (.ret w ρ)) (h2 : outT bor w ρ = some (t, ρ2)) (h3 : finL ts ρ2 = some ts') : bodyF n bor g ts = some (.ret t ts') := by
  unfold bodyF
  rw [if_pos ho, h]
  simp only [h2, Option.bind_some, h3, Option.map_some]
theorem body_exc {n : Nat} {bor : List Nat} {g : FS} {ts ts' : List T} {x : Exn} {ρ : Env} (ho : ownsOk bor ts = true) (h : g (ts.map some ++ List.replicate (n - ts.length) none) = some (.exc x ρ)) (h3 : finL ts ρ = some ts') : bodyF n bor g ts = some (.exc x ts') := by
  unfold bodyF
  rw [if_pos ho, h]
  simp only [h3, Option.map_some]
theorem body_nx {n : Nat} {bor : List Nat} {g : FS} {ts ts' : List T} {ρ : Env} (ho : ownsOk bor ts = true) (h : g (ts.map some ++ List.replicate (n - ts.length) none) = some (.nx ρ)) (h3 : finL ts ρ = some ts') : bodyF n bor g ts = some (.ret (.fr .non) ts') := by
  unfold bodyF
  rw [if_pos ho, h]
  simp only [h3, Option.map_some]
end Vl

namespace Vl
open PySem PySem.Spec PyProof.Rows L2 He
section
variable {c : Vc} {X : Cx} {W : WX} {b : Bool} {bor : List Nat} {O O1 O2 O' : Addr → Prop} {fp fp1 fp2 fp' : List Addr} {H H1 H2 H' : Hp} {ρ ρ1 ρ2 : Env} {σ σ1 : L2.St} {k n i j : Nat}
variable {a e e' o : Expr} {es : List Expr} {fa fb fo : FE} {fs : FG (List Val)} {pos p p1 p2 : Pos} {x : Str}
/-! ### parts -/
/-- x[j], x a list with own parts -/
def vPt (i j : Nat) : FE := fun ρ => match ρ[i]? with
  | some (some (.tl ts)) => match ts[j]? with
    | some (.fr d) => some (.val (.fr d) ρ)
    | some .hole => none
    | some _ => some (.val (.pt i j) ρ)
    | none => none
  | _ => none
theorem x_pt (i j : Nat) {q : Nat} (hN : X.N[i]? = some x := by rfl) (hv : Vis X.env.scope x := by first | exact Or.inl rfl | exact Or.inr (Or.inl rfl) | exact Or.inr (Or.inr rfl)) (hd : (x == ("__debug__" : Str)) = false := by decide) (hcd : (x == ("__classdict__" : Str)) = false := by decide)
    (hK : X.K = c.K := by rfl) : VE c X W b (.Subscript (.Name x p) (.Constant (.int (j : Int)) q p1) pos) (vPt i j) := by
  refine ⟨_, pe_ix (r := rIx c.K) (by rw [← hK]; exact ix_seq) (pv i hN hv hd hcd) pe_int (by intro _ _; rfl), fun O fp H ρ σ Q S h => ?_⟩
  unfold vPt at h
  split at h
  · rename_i ts et
    obtain ⟨v, f, fl, fr, h1, h2, _⟩ := S.rs.get et
    obtain ⟨a, vs, rfl, ha, rs⟩ := h2
    have go : ∀ t u g, ts[j]? = some t → RT c O H t u g → vs[j]? = some u → Q u H → tOp (rIx c.K) (tVar i) (tC (V.int (j : Int))) σ H Q := fun t u g _ _ hu q => ⟨.ref a, h1, .inl ⟨a, vs, (j : Int), u, rfl, rfl, sqL_of ha.1, atI_nat hu, q⟩⟩
    split at h
    · rename_i d ej
      obtain ⟨u, g, hu, r, _⟩ := rs.get ej
      exact go _ u g ej r hu (h u H O fp [] S .refl (fun _ => .refl) ⟨r.1, rfl⟩ fun _ q => (by cases q))
    · exact h.elim
    · rename_i t _ _ ej
      obtain ⟨u, g, hu, r, _⟩ := rs.get ej
      exact go _ u g ej r hu (h u H O fp [] S .refl (fun _ => .refl) ⟨⟨a, vs, h1, ha, hu⟩, rfl⟩ fun _ q => (by cases q))
    · exact h.elim
  · exact h.elim
/-- [..] whose items may be one's own -/
def kLstP (ws : List Val) : FE := fun ρ => match takeA ρ ws with
  | some (ts, ρ1) => if ts.length ≤ 1000 then some (.val (.nw (.tl ts)) ρ1) else none
  | none => none
def vLstP (fs : FG (List Val)) : FE := bnd fs kLstP
theorem x_lstP (hs : VA c X W b es fs) : VE c X W b (.List es pos) (vLstP fs) := by
  obtain ⟨ts, ps, os⟩ := hs
  refine ⟨_, pe_lst ps, fun O fp H ρ σ Q S h => os.thn S.tr S .refl (fun _ => .refl) h id fun ws ρ1 us H1 O1 fp1 g1 _ S1 E1 _ I1 R1 F1 h1 => ?_⟩
  unfold kLstP at h1
  cases et : takeA ρ1 ws with
  | none => simp only [et] at h1; exact h1.elim
  | some q =>
    obtain ⟨ts, ρ2⟩ := q
    simp only [et] at h1
    by_cases hl : ts.length ≤ 1000
    case neg => rw [if_neg hl] at h1; exact h1.elim
    rw [if_pos hl] at h1
    have ra := R1.ra (O2 := fun a => O1 a ∧ a ∉ g1) (fun a q => q.1) (fun a ha q => q.2 ha)
    have S2 := S1.less fun a ha => (R1.own a ha).2
    have E2 := E1.less S.tr F1
    obtain ⟨fa, fq, t1, t2, t3, t4, t5⟩ := take_ok S2 ra et
    refine ⟨by rw [t1.len]; exact le1000 hl, fun p hp => ?_⟩
    have kp : ∀ b, H1 b ≠ none → upd H1 p (.lst us) b = H1 b := fun b hb => upd_ne fun q => hb (q ▸ hp)
    have st : Stb (fun a => O1 a ∧ a ∉ g1) H1 (fun a => O1 a ∧ a ∉ g1) (upd H1 p (.lst us)) := .of (fun a _ h => kp a h.ne) fun a h => .inl h
    have np : ¬ (O1 p ∧ p ∉ g1) := fun q => (S2.tr p q).ne hp
    have S3 : SR c (fun a => O1 a ∧ a ∉ g1) fq (upd H1 p (.lst us)) ρ2 σ := ⟨t2.rs.stb st fun a ha => kp a (t2.tr a (t2.ow a ha)).ne, t2.nd, t2.ow, fun a ha => by rw [kp a (t2.tr a ha).ne]; exact t2.tr a ha, fun P hP => by
      obtain ⟨ps, e, k⟩ := t2.tb P hP
      exact ⟨ps, by rw [kp P (by rw [e]; simp)]; exact e, k⟩, fun p hp => (t2.px p hp).stb st⟩
    have R3 : RT c (fun a => O1 a ∧ a ∉ g1) (upd H1 p (.lst us)) (.tl ts) (.ref p) fa := ⟨p, us, rfl, ⟨upd_same, np⟩, t1.stb st fun a ha => kp a (S2.tr a (S2.ow a (t4 a ha).1)).ne⟩
    refine h1 (.ref p) _ _ fq fa S3 ⟨fun b hb hn => (kp b (E2.th b hb.ne)).trans (E2.kp b hb hn), fun b hb => by
        by_cases z : b = p
        · rw [z, upd_same]; simp
        · rw [upd_ne z]; exact E2.th b hb, E2.ok, E2.on, fun b hb => E2.fn b (t5 b hb)⟩ (fun q => (I1 q).trans fun a h => kp a h.ne) ⟨R3, t3, fun a ha => ⟨S2.ow a (t4 a ha).1, (t4 a ha).2⟩⟩ fun a ha => (E2.fn a (t4 a ha).1).symm
/-! ### x += e -/
def kAug (i : Nat) (g : D → D → Option Val) (w : Val) : FS := fun ρ => match ρ[i]? with
  | some (some (.fr d)) => match (vw ρ w).bind fun y => g d y with
    | some (.fr r) => if i < ρ.length then some (.nx (ρ.set i (some (.fr r)))) else none
    | _ => none
  | _ => none
def sAug (i : Nat) (g : D → D → Option Val) (fa : FE) : FS := fun ρ => match ρ[i]? with
  | some (some (.fr (.int d0))) => exS fa (fun w ρ1 => match ρ1[i]? with
    | some (some (.fr (.int d))) => if d = d0 then kAug i g w ρ1 else none
    | _ => none) ρ
  | _ => none
theorem vs_aug {op : Operator} {f : Int → Int → Int} (hN : X.N.Nodup) (hx : X.N[i]? = some x) (hl : Loc X.env.scope x) (hp : PIp X op (ipI f)) (ha : VE c X W false a fa) (hi : i ∉ bor := by decide) (hxs : i ∉ c.xs.map (·.i) := by exact nmIn rfl)
    (hf : X.fn x = true ∨ X.env.scope.names.lookup x = some .local := by first | exact .inl rfl | exact .inr rfl | assumption) : VS c X W bor (.AugAssign (.Name x p) op a pos) (sAug i (iOp (fun _ _ => true) f) fa) := by
  obtain ⟨ta, pa, oa⟩ := ha
  refine ⟨_, ps_aug hN hx hl pa hp hf, fun O fp H ρ σ D S h => ?_⟩
  unfold sAug at h
  split at h
  · rename_i d0 e0
    obtain ⟨v, f0, fl, fr, h1, h2, _⟩ := S.rs.get e0
    have hv : v = .int d0 := h2.1
    subst hv
    refine ⟨.int d0, h1, oa.stm S.tr S .refl .refl h fun w ρ1 u H1 O1 fp1 g1 S1 E1 _ _ R1 F1 h3 => ?_⟩
    split at h3
    · rename_i d e1
      by_cases ed : d = d0
      · subst ed
        rw [if_pos rfl] at h3
        unfold kAug at h3
        rw [e1] at h3
        simp only at h3
        split at h3
        · rename_i r er
          obtain ⟨y, ey, eg⟩ := Option.bind_eq_some_iff.mp er
          obtain ⟨i1, j1, q1, q2, _, q4⟩ := iOp_some eg
          cases q1
          cases q4
          by_cases hl : i < ρ1.length
          · rw [if_pos hl] at h3
            have pk := R1.vw S1 ey
            subst q2
            refine ⟨d, j1, rfl, pk, ?_⟩
            obtain ⟨fp', S2, k⟩ := S1.put (t := .fr (.int (f d j1))) (u := .int (f d j1)) (g := []) (.inl hxs) hl ⟨rfl, rfl⟩ .nil (fun _ q => (by cases q))
            exact h3 _ H1 O1 fp' S2 (E1.put k (fun _ q => (by cases q))) (Bk.set hi)
          · rw [if_neg hl] at h3; exact h3.elim
        · exact h3.elim
      · rw [if_neg ed] at h3; exact h3.elim
    · exact h3.elim
  · exact h.elim
end
end Vl

namespace Vl
open PySem PySem.Spec PyProof.Rows L2 He
section
variable {c : Vc} {X : Cx} {W : WX} {b : Bool} {bor : List Nat} {O O1 O2 O' : Addr → Prop} {fp fp1 fp2 fp' : List Addr} {H H1 H2 H' : Hp} {ρ ρ1 ρ2 : Env} {σ σ1 : L2.St} {k n i j : Nat}
variable {a e e' o : Expr} {es : List Expr} {fa fb fo fi : FE} {fs : FG (List Val)} {pos p p1 p2 : Pos} {x : Str}
/-! ### dicts with keys ints and texts -/
def gD (kvs : List (Key × D)) (k : Key) : Option D := (kvs.find? fun kv => decide (kv.1 = k)).map (·.2)
def pD (kvs : List (Key × D)) (k : Key) (d : D) : List (Key × D) := if (kvs.any fun kv => decide (kv.1 = k)) = true then kvs.map (fun kv => if kv.1 = k then (kv.1, d) else kv) else kvs ++ [(k, d)]
theorem gD_pos {q : Key × D} {r : List (Key × D)} {k : Key} (e : q.1 = k) : gD (q :: r) k = some q.2 := by simp [gD, List.find?_cons, e]
theorem gD_neg {q : Key × D} {r : List (Key × D)} {k : Key} (e : ¬ q.1 = k) : gD (q :: r) k = gD r k := by simp [gD, List.find?_cons, e]
theorem RDk.val : ∀ {kvs : List (Key × D)} {vs : List (Key × V)} (k : Key), RDk c O H kvs vs → (∀ d, gD kvs k = some d → ∃ v, valV vs k = some v ∧ RD c O H d v) ∧ (gD kvs k = none → valV vs k = none)
  | [], _, k, h => by rw [show _ = [] from h]; exact ⟨fun d e => (by cases e), fun _ => rfl⟩
  | (k0, d0) :: kvs, _, k, ⟨v, r, e, h, t⟩ => by
    subst e
    by_cases q : k0 = k
    · rw [gD_pos (q := (k0, d0)) q, valV_pos (p := (k0, v)) q]
      exact ⟨fun d e => by cases e; exact ⟨v, rfl, h⟩, fun e => (by cases e)⟩
    · rw [gD_neg (q := (k0, d0)) q, valV_neg (p := (k0, v)) q]
      exact RDk.val k t
theorem RDk.any : ∀ {kvs : List (Key × D)} {vs : List (Key × V)} (k : Key), RDk c O H kvs vs → (vs.any fun kv => decide (kv.1 = k)) = (kvs.any fun kv => decide (kv.1 = k))
  | [], _, k, h => by rw [show _ = [] from h]; rfl
  | (k0, d0) :: kvs, _, k, ⟨v, r, e, h, t⟩ => by
    subst e
    rw [List.any_cons, List.any_cons, RDk.any k t]
theorem RDk.repl : ∀ {kvs : List (Key × D)} {vs : List (Key × V)} (k : Key) {d : D} {v : V}, RD c O H d v → RDk c O H kvs vs → RDk c O H (kvs.map fun kv => if kv.1 = k then (kv.1, d) else kv) (vs.map fun kv => if kv.1 = k then (kv.1, v) else kv)
  | [], _, k, d, v, _, h => by rw [show _ = [] from h]; exact (rfl : ([] : List (Key × V)) = [])
  | (k0, d0) :: kvs, _, k, d, v, r0, ⟨v0, r, e, h, t⟩ => by
    subst e
    by_cases q : k0 = k
    · rw [List.map_cons, List.map_cons, if_pos q, if_pos q]
      exact ⟨v, _, rfl, r0, RDk.repl k r0 t⟩
    · rw [List.map_cons, List.map_cons, if_neg q, if_neg q]
      exact ⟨v0, _, rfl, h, RDk.repl k r0 t⟩
theorem RDk.snoc : ∀ {kvs : List (Key × D)} {vs : List (Key × V)} (k : Key) {d : D} {v : V}, RD c O H d v → RDk c O H kvs vs → RDk c O H (kvs ++ [(k, d)]) (vs ++ [(k, v)])
  | [], _, k, d, v, r0, h => by rw [show _ = [] from h]; exact ⟨v, [], rfl, r0, (rfl : ([] : List (Key × V)) = [])⟩
  | (k0, d0) :: kvs, _, k, d, v, r0, ⟨v0, r, e, h, t⟩ => by
    subst e
    exact ⟨v0, _, rfl, h, RDk.snoc k r0 t⟩
theorem RDk.put {kvs : List (Key × D)} {vs : List (Key × V)} (k : Key) {d : D} {v : V} (r0 : RD c O H d v) (h : RDk c O H kvs vs) : RDk c O H (pD kvs k d) (putK vs k v) := by
  unfold pD putK
  rw [h.any k]
  split
  · exact h.repl k r0
  · exact h.snoc k r0
theorem RDk.len : ∀ {kvs : List (Key × D)} {vs : List (Key × V)}, RDk c O H kvs vs → vs.length = kvs.length
  | [], _, h => by rw [show _ = [] from h]; rfl
  | (_, _) :: _, _, ⟨v, r, e, _, t⟩ => by rw [e]; simp [RDk.len t]
def keyD : D → Option Key
  | .int i => some (.inl i)
  | .str z => some (.inr z)
  | _ => none
theorem keyD_ok {d : D} {v : V} {k : Key} (p : Pk c O H d v) (e : keyD d = some k) : v = kV k := by
  cases d with
  | int i => cases e; exact p
  | str z => cases e; exact p
  | _ => cases e
/-- d[k] -/
def rDG : R2 := fun x y H Q => ∃ a v, x = .ref a ∧ DGet H a y (some v) ∧ Q v H
def gDG : D → D → Option Val := fun x y => match x with
  | .dK kvs => (keyD y).bind fun k => (gD kvs k).map .fr
  | _ => none
theorem dk_get {kvs : List (Key × D)} {x : V} (px : Pk c O H (.dK kvs) x) : ∃ a vs, x = .ref a ∧ Rd H a (.dK vs) ∧ RDk c O H kvs vs := by
  obtain ⟨a, vs, ea, ha, ra⟩ := px
  exact ⟨a, vs, ea, Vl.rd_of ha (fun _ _ z => by cases z), ra⟩
theorem s_dg : OpS c rDG gDG := fun O H x y dx dy w Q tr px py e k => by
  unfold gDG at e
  split at e
  · obtain ⟨kk, e1, e2⟩ := Option.bind_eq_some_iff.mp e
    obtain ⟨d, e3, e4⟩ := Option.map_eq_some_iff.mp e2
    subst e4
    obtain ⟨a, vs, rfl, ha, ra⟩ := dk_get px
    obtain ⟨v, h1, h2⟩ := (ra.val kk).1 d e3
    exact ⟨a, v, rfl, .inl ⟨vs, kk, ha, keyD_ok py e1, h1.symm⟩, k _ H [] (.same h2)⟩
  · cases e
theorem x_dg (hr : Room k X.A) (ha : VE c X W b a fa) (hb : VE c X W b e fb) (hs : NoSl e := by intro _ _; rfl) : VE c X W b (.Subscript a e pos) (vOp gDG fa fb) := by
  obtain ⟨ta, pa, oa⟩ := ha
  obtain ⟨tb, pb, ob⟩ := hb
  exact ⟨_, pe_dget (by have := hr.units; omega) pa pb hs, ok_op s_dg oa ob⟩
/-- k in d -/
def rDI (neg : Bool) : R2 := fun x y H Q => ∃ a o, y = .ref a ∧ DGet H a x o ∧ Q (.bl (if neg then !o.isSome else o.isSome)) H
theorem op_dI (hu : X.A.units + 1 < cLine) : OpR X (compareOp .In) (rDI false) := by
  intro pins s σ H x y v u Q I rx ry h
  obtain ⟨a, ov, rfl, g, q⟩ := h
  obtain rfl : u = Value.ref a := ry
  exact d_in hu I g rx fun s3 I3 => ⟨.bl ov.isSome, H, I3, rfl, q⟩
theorem op_dNI (hu : X.A.units + 1 < cLine) : OpR X (compareOp .NotIn) (rDI true) := by
  intro pins s σ H x y v u Q I rx ry h
  obtain ⟨a, ov, rfl, g, q⟩ := h
  obtain rfl : u = Value.ref a := ry
  exact d_notIn hu I g rx fun s3 I3 => ⟨.bl (!ov.isSome), H, I3, rfl, q⟩
def gDI (neg : Bool) : D → D → Option Val := fun x y => match y with
  | .dK kvs => (keyD x).map fun k => .fr (.bl (if neg then !(gD kvs k).isSome else (gD kvs k).isSome))
  | _ => none
theorem s_dI {neg : Bool} : OpS c (rDI neg) (gDI neg) := fun O H x y dx dy w Q tr px py e k => by
  unfold gDI at e
  split at e
  · rename_i kvs
    obtain ⟨kk, e1, e2⟩ := Option.map_eq_some_iff.mp e
    subst e2
    obtain ⟨a, vs, rfl, ha, ra⟩ := dk_get py
    have hv : (valV vs kk).isSome = (gD kvs kk).isSome := by
      cases q : gD kvs kk with
      | none => rw [(ra.val kk).2 q]; rfl
      | some d =>
        obtain ⟨v, h1, _⟩ := (ra.val kk).1 d q
        rw [h1]
        rfl
    refine ⟨a, valV vs kk, rfl, .inl ⟨vs, kk, ha, keyD_ok px e1, rfl⟩, ?_⟩
    rw [hv]
    exact k _ H [] (.same rfl)
  · cases e
/-! x in a list, a tuple of flat things, a text -/
def flatD : D → Bool
  | .non => true | .bl _ => true | .int _ => true | .str _ => true | _ => false
def eqF : D → D → Bool
  | .non, .non => true
  | .bl a, .bl b => a == b
  | .bl a, .int b => (if a then 1 else 0) == b
  | .int a, .bl b => a == (if b then 1 else 0)
  | .int a, .int b => a == b
  | .str a, .str b => a == b
  | _, _ => false
def toV : D → V
  | .bl b => .bl b | .int i => .int i | .str z => .str z | _ => .non
theorem toV_ok {d : D} {v : V} (f : flatD d = true) (p : RD c O H d v) : v = toV d ∧ flatV (toV d) = true := by
  cases d with
  | non => exact ⟨p, rfl⟩
  | bl _ => exact ⟨p, rfl⟩
  | int _ => exact ⟨p, rfl⟩
  | str _ => exact ⟨p, rfl⟩
  | _ => cases f
theorem eqF_ok {x y : D} (hx : flatD x = true) (hy : flatD y = true) : eqV (toV x) (toV y) = eqF x y := by
  cases x with
  | non => cases y <;> first | rfl | cases hy
  | bl _ => cases y <;> first | rfl | cases hy
  | int _ => cases y <;> first | rfl | cases hy
  | str _ => cases y <;> first | rfl | cases hy
  | _ => cases hx
theorem RDs.flat : ∀ {ds : List D} {vs : List V}, RDs c O H ds vs → ds.all flatD = true → vs = ds.map toV ∧ vs.all flatV = true
  | [], _, h, _ => by rw [show _ = [] from h]; exact ⟨rfl, rfl⟩
  | d :: ds, _, ⟨v, r, e, h, t⟩, f => by
    rw [List.all_cons, Bool.and_eq_true] at f
    obtain ⟨h1, h2⟩ := toV_ok f.1 h
    obtain ⟨h3, h4⟩ := RDs.flat t f.2
    subst e h1 h3
    exact ⟨rfl, by rw [List.all_cons, h2, h4]; rfl⟩
def inD (x : D) (ds : List D) : Bool := ds.any fun y => eqF y x
theorem inD_ok {x : D} (hx : flatD x = true) : ∀ {ds : List D}, ds.all flatD = true → inV (toV x) (ds.map toV) = inD x ds
  | [], _ => rfl
  | d :: ds, f => by
    rw [List.all_cons, Bool.and_eq_true] at f
    have ih := inD_ok hx (ds := ds) f.2
    unfold inV inD at ih ⊢
    rw [List.map_cons, List.any_cons, List.any_cons, ih, eqF_ok f.1 hx]
def itemsD : D → Option (List D)
  | .lst xs => some xs | .klst xs => some xs | .tup xs => some xs | .ktup xs => some xs | _ => none
def gFI (neg : Bool) : D → D → Option Val := fun x y => (itemsD y).bind fun ds => if flatD x && ds.all flatD then some (.fr (.bl (if neg then !inD x ds else inD x ds))) else none
theorem items_ok {d : D} {v : V} {ds : List D} (p : Pk c O H d v) (e : itemsD d = some ds) : ∃ q vs, v = .ref q ∧ (SqL c.K H q vs ∨ SqT c.K H q vs) ∧ RDs c O H ds vs := by
  cases d with
  | lst xs => cases e; obtain ⟨q, vs, rfl, h, r⟩ := p; exact ⟨q, vs, rfl, .inl (sqL_of h), r⟩
  | klst xs => cases e; obtain ⟨q, vs, rfl, h, r⟩ := p; exact ⟨q, vs, rfl, .inl (sqK_of h), r⟩
  | tup xs => cases e; obtain ⟨q, vs, rfl, h, r⟩ := p; exact ⟨q, vs, rfl, .inr (sqT_of h.1), r⟩
  | ktup xs => cases e; obtain ⟨q, vs, rfl, h, r⟩ := p; exact ⟨q, vs, rfl, .inr (.inr h), r⟩
  | _ => cases e
theorem s_fI {neg : Bool} : OpS c (rIn c.K neg) (gFI neg) := fun O H x y dx dy w Q tr px py e k => by
  unfold gFI at e
  obtain ⟨ds, e1, e2⟩ := Option.bind_eq_some_iff.mp e
  split at e2
  · rename_i hf
    cases e2
    rw [Bool.and_eq_true] at hf
    obtain ⟨q, vs, rfl, hq, r⟩ := items_ok py e1
    obtain ⟨h3, h4⟩ := r.flat hf.2
    have px' : RD c O H dx x := by
      cases dx <;> first | exact px | cases hf.1
    obtain ⟨h1, h2⟩ := toV_ok hf.1 px'
    refine ⟨q, vs, rfl, hq, by rw [h1]; exact h2, h4, ?_⟩
    rw [h1, h3, inD_ok hf.1 hf.2]
    exact k _ H [] (.same rfl)
  · cases e2
def gIn (neg : Bool) : D → D → Option Val := fun x y => (gFI neg x y).or (gDI neg x y)
def rInG (K : PySem.W.Frag) (neg : Bool) : R2 := fun x y H Q => rIn K neg x y H Q ∨ rDI neg x y H Q
theorem gIn_bl {neg : Bool} : ∀ dx dy w, gIn neg dx dy = some w → ∃ k, w = .fr (.bl k) := fun dx dy w h => by
  unfold gIn at h
  cases q : gFI neg dx dy with
  | some w' =>
    rw [q] at h
    have h : some w' = some w := h
    cases h
    unfold gFI at q
    obtain ⟨ds, e1, e2⟩ := Option.bind_eq_some_iff.mp q
    split at e2
    · cases e2; exact ⟨_, rfl⟩
    · cases e2
  | none =>
    rw [q] at h
    have h : gDI neg dx dy = some w := h
    unfold gDI at h
    split at h
    · exact map_bl h
    · cases h
theorem c_in (hr : Room k X.A) (hK : X.K = c.K := by rfl) : CmpG c X .In (rInG c.K false) (gIn false) := ⟨by rw [← hK]; exact op_in_seq.or (op_dI (by have := hr.units; omega)), opS_or s_fI s_dI, gIn_bl⟩
theorem c_notin (hr : Room k X.A) (hK : X.K = c.K := by rfl) : CmpG c X .NotIn (rInG c.K true) (gIn true) := ⟨by rw [← hK]; exact op_notIn_seq.or (op_dNI (by have := hr.units; omega)), opS_or s_fI s_dI, gIn_bl⟩
/-! d[k] = v, {} -/
def seD : T → D → D → Option T
  | .dK kvs, i, d => (keyD i).bind fun k => if kvs.length < 16000000 then some (.dK (pD kvs k d)) else none
  | _, _, _ => none
theorem s_seD : SeS c rSetD seD := fun O H x y z t di dv t' f Q rt nd own pk rd e k => by
  unfold seD at e
  split at e
  · obtain ⟨kk, e1, e2⟩ := Option.bind_eq_some_iff.mp e
    split at e2
    · rename_i hl
      cases e2
      obtain ⟨p, vs, rfl, hp, r, ef⟩ := rt
      subst ef
      have st : Stb O H O (upd H p (.dK (putK vs kk z))) := .of (fun a n _ => upd_ne fun q => n (q ▸ own p (by simp))) fun a h => .inl h
      refine ⟨p, _, rfl, .inl ⟨vs, kk, hp, keyD_ok pk e1, by rw [r.len, sizeLine_eq]; omega, rfl⟩, k _ (fun b n => upd_ne fun q => n (by simp [q])) (fun b hb => ?_) ⟨p, _, rfl, upd_same, (r.put kk rd).stb st, rfl⟩⟩
      simp at hb
      rw [hb]
      exact .of upd_same
    · cases e2
  · cases e
theorem x_seD (hr : Room k X.A) (ha : VE c X W false a fa) (ho : VE c X W false o fo) (hi : VE c X W false e fi)
    (h0 : ∀ v, assign (.Subscript o e p2) X.env v = (do
      let ov ← holding [v] (eval o X.env)
      let iv ← holding [v, ov] (eval e X.env)
      standAt p2
      holding [v, ov, iv] (setItem ov iv v)
      release [v, ov, iv] []) := by intro _; rfl)
    (h1 : swapsWithSole [.Subscript o e p2] a pos.line X.env = pure false := by rfl) (h2 : swappedStores [.Subscript o e p2] a X.env = pure none := by rfl)
    (h3 : (assignEach [.Subscript o e p2] X.env).map (·.2) = [assign (.Subscript o e p2) X.env] := by rfl) : VS c X W bor (.Assign [.Subscript o e p2] a pos) (sSe seD fa fo fi) := vs_se (set_dict (by have := hr.units; omega)) s_seD ha ho hi h0 h1 h2 h3
def vNewK : FE := fun ρ => some (.val (.nw (.dK [])) ρ)
theorem x_newK : VE c X W b (.Dict [] [] pos) vNewK := ⟨_, pe_dnewK, fun O fp H ρ σ Q S h p hp =>
  Post.pr (w := .nw (.dK [])) (g := [p]) h S.tr S .refl (fun _ => .refl) ⟨fun b hb => upd_ne fun q => hb (q ▸ hp), fun a ha => by simp at ha; rw [ha]; exact ⟨hp, .of upd_same⟩, by simp, ⟨p, [], rfl, upd_same, (rfl : ([] : List (Key × V)) = []), rfl⟩⟩⟩
end
end Vl

namespace Vl
open PySem PySem.Spec PyProof.Rows L2 He
section
variable {c : Vc} {X : Cx} {W : WX} {b : Bool} {bor : List Nat} {O O1 O2 O' : Addr → Prop} {fp fp1 fp2 fp' : List Addr} {H H1 H2 H' : Hp} {ρ ρ1 ρ2 : Env} {σ σ1 : L2.St} {k n i j : Nat}
variable {a e e' o tg iter : Expr} {es : List Expr} {fa fb fo fi : FE} {fs : FG (List Val)} {pos p p1 p2 apos : Pos} {x : Str}
/-! ### tuple targets -/
def GsN (n : Nat) (gs : FTs) : Prop := ∀ ds ρ ρ', gs ds ρ = some ρ' → ds.length = n
theorem gsn_n : GsN 0 gsN := fun ds ρ ρ' h => by
  unfold gsN at h
  split at h
  · rfl
  · cases h
theorem gsn_c {g : FT} {gs : FTs} (h : GsN n gs) : GsN (n + 1) (gsC g gs) := fun ds ρ ρ' e => by
  unfold gsC at e
  split at e
  · obtain ⟨ρ1, _, e2⟩ := Option.bind_eq_some_iff.mp e
    rw [List.length_cons, h _ _ _ e2]
  · cases e
theorem x_tgt {gs : FTs} (h : VGs c X bor es gs) (hl : GsN n gs) (hK : X.K = c.K := by rfl) (hc : X.calm = true := by rfl) (hn : (assignEach es X.env).length = n := by rfl) (hst : (assignEach es X.env).findIdx? (·.1) = none := by rfl) : VG c X bor (.Tuple es k pos) (gT gs) := vg_tup hK hc h hl hn hst
/-! ### for over a list, a tuple, a text -/
def iSeq (K : PySem.W.Frag) (te : TE) : TI := fun σ H R => te σ H fun x H1 => (∃ a, x = .ref a ∧ (∃ xs, SqL K H1 a xs) ∧ R (Itl K a) H1) ∨ (∃ a, x = .ref a ∧ (∃ xs, SqT K H1 a xs) ∧ R (Itt K a) H1) ∨ ∃ z, x = .str z ∧ R (Its z) H1
theorem pi_seq {te : TE} (he : PE X e te) : PI X tg e (iSeq X.K te) := by
  refine ⟨fun pins s σ H R I h => ?_⟩
  refine thn (he.run pins s σ H _ I h) fun v s1 ⟨y, H1, I1, r1, q1⟩ => ?_
  rcases q1 with ⟨a, e, ⟨xs, hq⟩, q⟩ | ⟨a, e, ⟨xs, hq⟩, q⟩ | ⟨z, e, q⟩
  · subst e
    cases r1
    obtain ⟨its, rv, p, hz⟩ := I1.list hq
    exact wpAny_pyIter_list p.isList (pi_one (tk := s1.toks) I1 _ (turn_list a _) ⟨_, Heap.get?_push_size _ rfl, rfl, rfl⟩ q)
  · subst e
    cases r1
    obtain ⟨its, rv, p, hz⟩ := I1.tuple hq
    exact wpAny_pyIter_tuple (show s1.heap.IsTuple a its.toArray from p) (pi_one (tk := s1.toks) I1 _ (turn_tuple a _) ⟨_, Heap.get?_push_size _ rfl, rfl, rfl⟩ q)
  · subst e
    obtain ⟨t, rfl⟩ := r1
    cases ha : z.cps.all (· < 128)
    · exact wpAny_pyIter_wide ha (pi_one (tk := s1.toks) I1 _ (turn_str _ z t "str_iterator" (.inr rfl)) ⟨_, Heap.get?_push_size _ rfl, rfl, rfl⟩ q)
    · exact wpAny_pyIter_ascii ha (pi_one (tk := s1.toks) I1 _ (turn_str _ z t "str_ascii_iterator" (.inl rfl)) ⟨_, Heap.get?_push_size _ rfl, rfl, rfl⟩ q)
def chD (z : Str) : List D := z.cps.toList.map fun u => .str ⟨#[u]⟩
def asS (w : Val) : FG (List D) := fun ρ => match fz w with
  | some (.lst ds) => some (.val ds ρ)
  | some (.klst ds) => some (.val ds ρ)
  | some (.tup ds) => some (.val ds ρ)
  | some (.ktup ds) => some (.val ds ρ)
  | some (.str z) => some (.val (chD z) ρ)
  | _ => none
theorem yl_str {z : Str} : Yl c (Its z) (chD z) O fp H where
  go := fun O2 fp2 H2 i d E _ tr e => by
    unfold chD at e
    rw [List.getElem?_map, Array.getElem?_toList] at e
    obtain ⟨u, e1, e2⟩ := Option.map_eq_some_iff.mp e
    subst e2
    refine ⟨(Array.getElem?_eq_some_iff.mp e1).1, fun x H3 y => ?_⟩
    obtain ⟨e2, u', e3, e4⟩ := y
    subst e2
    rw [e1] at e3
    cases e3
    exact ⟨fun _ _ => rfl, e4⟩
  stop := fun O2 fp2 H2 E tr => by
    show z.cps.size ≤ (chD z).length
    unfold chD
    rw [List.length_map, Array.length_toList]
    exact Nat.le_refl _
theorem vi_seq (hK : X.K = c.K) (ha : VE c X W false iter fa) : VI c X W tg iter (bnd fa asS) := by
  obtain ⟨ta, pa, oa⟩ := ha
  refine ⟨_, pi_seq pa, fun O fp H ρ σ R S h => oa.itr S h fun w ρ' u H' O' fp' g S' E r F h => ?_⟩
  cases e : fz w with
  | none => simp only [asS, e] at h; exact h.elim
  | some d =>
    have rr := r.rest (O1 := fun a => O' a ∧ a ∉ g) e (fun a q => q.1) (fun a ha q => q.2 ha)
    have S2 := S'.less fun a ha => (r.own a ha).2
    cases d with
    | lst ds =>
      simp only [asS, e] at h
      obtain ⟨p, vs, eu, h1, r1⟩ := rr
      rw [hK]
      exact .inl ⟨p, eu, ⟨vs, sqL_of h1.1⟩, h _ H' _ fp' S2 (E.less S.tr F) (yl_list h1 r1 S2.ow)⟩
    | klst ds =>
      simp only [asS, e] at h
      obtain ⟨p, vs, eu, h1, r1⟩ := rr
      rw [hK]
      exact .inl ⟨p, eu, ⟨vs, sqK_of h1⟩, h _ H' _ fp' S2 (E.less S.tr F) (yl_klst h1 r1 S2.ow)⟩
    | tup ds =>
      simp only [asS, e] at h
      obtain ⟨p, vs, eu, h1, r1⟩ := rr
      rw [hK]
      exact .inr (.inl ⟨p, eu, ⟨vs, sqT_of h1.1⟩, h _ H' _ fp' S2 (E.less S.tr F) (yl_tup h1 r1 S2.ow)⟩)
    | ktup ds =>
      simp only [asS, e] at h
      obtain ⟨p, vs, eu, h1, r1⟩ := rr
      rw [hK]
      exact .inr (.inl ⟨p, eu, ⟨vs, .inr h1⟩, h _ H' _ fp' S2 (E.less S.tr F) (yl_ktup h1 r1 S2.ow)⟩)
    | str z =>
      simp only [asS, e] at h
      have ez : u = .str z := rr
      exact .inr (.inr ⟨z, ez, h _ H' _ fp' S2 (E.less S.tr F) yl_str⟩)
    | _ => simp only [asS, e] at h; exact h.elim
/-! ### dicts from others -/
theorem RDk.keys : ∀ {kvs : List (Key × D)} {vs : List (Key × V)}, RDk c O H kvs vs → vs.map (·.1) = kvs.map (·.1)
  | [], _, h => by rw [show _ = [] from h]; rfl
  | (_, _) :: _, _, ⟨v, r, e, _, t⟩ => by rw [e]; simp [RDk.keys t]
def keyVD : Key → D
  | .inl i => .int i
  | .inr z => .str z
theorem keyVD_ok {k : Key} : RD c O H (keyVD k) (kV k) := by
  cases k <;> rfl
def pairD : D → Option (Key × D)
  | .tup [k, d] => (keyD k).map fun q => (q, d)
  | _ => none
def pairsD : List D → Option (List (Key × D))
  | [] => some []
  | d :: ds => (pairD d).bind fun p => (pairsD ds).map (p :: ·)
def mrgD (kvs more : List (Key × D)) : List (Key × D) := more.foldl (fun acc kv => pD acc kv.1 kv.2) kvs
theorem RDk.mrg : ∀ {more : List (Key × D)} {ms : List (Key × V)} {kvs : List (Key × D)} {vs : List (Key × V)}, RDk c O H more ms → RDk c O H kvs vs → RDk c O H (mrgD kvs more) (mergeK vs ms)
  | [], _, _, _, h, r => by rw [show _ = [] from h]; exact r
  | (k, d) :: more, _, kvs, vs, ⟨v, r, e, h, t⟩, r0 => by
    subst e
    have q : RDk c O H (mrgD (pD kvs k d) more) (mergeK (putK vs k v) r) := RDk.mrg t (r0.put k h)
    exact q
theorem pairs_ok : ∀ {ds : List D} {vs : List V} {kvs : List (Key × D)}, RDs c O H ds vs → pairsD ds = some kvs → ∃ (ps : List Addr) (us : List (Key × V)), vs = ps.map V.ref ∧ Paired (fun p kv => SqT c.K H p [kV kv.1, kv.2]) ps us ∧ RDk c O H kvs us
  | [], _, kvs, h, e => by
    cases e
    exact ⟨[], [], by rw [show _ = [] from h]; rfl, .nil, (rfl : ([] : List (Key × V)) = [])⟩
  | d :: ds, _, kvs, ⟨v, r, ev, h, t⟩, e => by
    unfold pairsD at e
    obtain ⟨p, e1, e2⟩ := Option.bind_eq_some_iff.mp e
    obtain ⟨l, e3, e4⟩ := Option.map_eq_some_iff.mp e2
    subst e4
    obtain ⟨ps, us, w1, w2, w3⟩ := pairs_ok t e3
    unfold pairD at e1
    split at e1
    · rename_i kd d'
      obtain ⟨q, e5, e6⟩ := Option.map_eq_some_iff.mp e1
      subst e6
      obtain ⟨a, ws, rfl, ha, x1, r1, ew, y1, x2, r2, ew2, y2, y3⟩ := h
      rw [show r2 = [] from y3] at ew2
      subst ew2
      subst ew
      refine ⟨a :: ps, (q, x2) :: us, by rw [ev, w1]; rfl, .cons ?_ w2, ⟨x2, us, rfl, y2, w3⟩⟩
      have hk : x1 = kV q := keyD_ok y1.pk e5
      subst hk
      exact sqT_of ha.1
    · cases e1
/-- dict(x): of a list of pairs, of a dict -/
def gDict : List D → Option Val
  | [.lst ds] => (pairsD ds).map fun kvs => .nw (.dK (mrgD [] kvs))
  | [.klst ds] => (pairsD ds).map fun kvs => .nw (.dK (mrgD [] kvs))
  | [.dK kvs] => some (.nw (.dK kvs))
  | _ => none
theorem PR.dK {kvs : List (Key × D)} {vs : List (Key × V)} {p : Addr} (hp : H p = none) (r : RDk c O H kvs vs) : PR c O H (.nw (.dK kvs)) (.ref p) (upd H p (.dK vs)) [p] :=
  ⟨fun b h => upd_ne (fun q => h (by rw [q]; exact hp)), fun a ha => by simp at ha; subst ha; exact ⟨hp, .of upd_same⟩, by simp, ⟨p, vs, rfl, upd_same, r.stb (grow_stb hp (fun a ha => by simp at ha; rw [ha]; exact hp)), rfl⟩⟩
def rDict (K : PySem.W.Frag) : List V → Hp → (V → Hp → Prop) → Prop := fun xs H Q => (∃ (a : Addr) (ps : List Addr) (kvs : List (Key × V)), xs = [.ref a] ∧ SqL K H a (ps.map V.ref) ∧ Paired (fun p kv => SqT K H p [kV kv.1, kv.2]) ps kvs ∧
    ∀ p, H p = none → Q (.ref p) (upd H p (.dK (mergeK [] kvs)))) ∨ ∃ (a : Addr) (kvs : List (Key × V)), xs = [.ref a] ∧ Rd H a (.dK kvs) ∧ ∀ p, H p = none → Q (.ref p) (upd H p (.dK kvs))
theorem call_dictR (hc : X.calm = true) : CallR X (.type "dict") (rDict X.K) := by
  intro pins s σ H xs us Q I r q
  exact q.elim (fun q => call_dictP hc pins s σ H xs us Q I r q) fun q => call_dictD pins s σ H xs us Q I r q
theorem s_dict : CaS c (rDict c.K) gDict := fun O H vs ds w Q tr p e k => by
  unfold gDict at e
  split at e
  · obtain ⟨kvs, e1, e2⟩ := Option.map_eq_some_iff.mp e
    subst e2
    obtain ⟨v, rfl, a, us, rfl, ha, ra⟩ := pks1 p
    obtain ⟨ps, ws, w1, w2, w3⟩ := pairs_ok ra e1
    subst w1
    exact .inl ⟨a, ps, ws, rfl, sqL_of ha, w2, fun l hl => k _ _ _ (.dK hl (w3.mrg (kvs := []) (vs := []) rfl))⟩
  · obtain ⟨kvs, e1, e2⟩ := Option.map_eq_some_iff.mp e
    subst e2
    obtain ⟨v, rfl, a, us, rfl, ha, ra⟩ := pks1 p
    obtain ⟨ps, ws, w1, w2, w3⟩ := pairs_ok ra e1
    subst w1
    exact .inl ⟨a, ps, ws, rfl, sqK_of ha, w2, fun l hl => k _ _ _ (.dK hl (w3.mrg (kvs := []) (vs := []) rfl))⟩
  · cases e
    obtain ⟨v, rfl, px⟩ := pks1 p
    obtain ⟨a, us, rfl, ha, ra⟩ := dk_get px
    exact .inr ⟨a, us, rfl, ha, fun l hl => k _ _ _ (.dK hl ra)⟩
  · cases e
theorem x_dict (hm : X.mg "dict" = none) (ha : VA c X W b [e] fs) (hg : Gl X "dict" := by rfl) (hc : X.calm = true := by rfl) (hK : X.K = c.K := by rfl) (he : starEach (e :: []) X.env = (false, eval e X.env) :: starEach [] X.env := by rfl) : VE c X W b (.Call (.Name "dict" p) [e] [] pos) (vCall gDict fs) :=
  ve_callT (r := rDict c.K) (by rw [← hK]; exact call_dictR hc) s_dict hg hm boot_dict ha (by decide) (by decide) he
/-- list(d): its keys -/
def gListD : List D → Option Val
  | [.dK kvs] => some (.nw (.lst (kvs.map fun kv => keyVD kv.1)))
  | _ => none
theorem RDk.keyL : ∀ {kvs : List (Key × D)} {vs : List (Key × V)}, RDk c O H kvs vs → RDs c O H (kvs.map fun kv => keyVD kv.1) (vs.map fun kv => kV kv.1)
  | [], _, h => by rw [show _ = [] from h]; exact (rfl : ([] : List V) = [])
  | (k, _) :: _, _, ⟨v, r, e, _, t⟩ => by
    rw [e]
    exact ⟨_, _, rfl, keyVD_ok, RDk.keyL t⟩
def rListD1 : List V → Hp → (V → Hp → Prop) → Prop := fun xs H Q => ∃ (a : Addr) (kvs : List (Key × V)), xs = [.ref a] ∧ Rd H a (.dK kvs) ∧ ∀ p, H p = none → Q (.ref p) (upd H p (.lst (kvs.map fun kv => kV kv.1)))
theorem s_listD : CaS c rListD1 gListD := fun O H vs ds w Q tr p e k => by
  unfold gListD at e
  split at e
  · cases e
    obtain ⟨v, rfl, px⟩ := pks1 p
    obtain ⟨a, us, rfl, ha, ra⟩ := dk_get px
    exact ⟨a, us, rfl, ha, fun l hl => k _ _ _ (.lst hl ra.keyL)⟩
  · cases e
theorem x_listD (hm : X.mg "list" = none) (ha : VA c X W b [e] fs) (hg : Gl X "list" := by rfl) (hc : X.calm = true := by rfl) (he : starEach (e :: []) X.env = (false, eval e X.env) :: starEach [] X.env := by rfl) : VE c X W b (.Call (.Name "list" p) [e] [] pos) (vCall gListD fs) :=
  ve_callT (r := rListD1) (call_listD hc) s_listD hg hm boot_list ha (by decide) (by decide) he
end
end Vl

namespace Vl
open PySem PySem.Spec PyProof.Rows L2 He
/-! ### an own exception's __init__: super().__init__(..), then its fields -/
theorem look_zip {x : Str} {v : Value} : ∀ {P : List Str} {vs : List Value} {i : Nat}, P.Nodup → P[i]? = some x → vs[i]? = some v → (P.zip vs).lookup x = some v
  | [], _, _, _, h, _ => by simp at h
  | _ :: _, [], _, _, _, h => by simp at h
  | p :: P, w :: vs, 0, nd, h1, h2 => by
    simp at h1 h2; subst h1; subst h2
    simp [List.lookup]
  | p :: P, w :: vs, i + 1, nd, h1, h2 => by
    have h1' : P[i]? = some x := by simpa using h1
    have ne : x ≠ p := fun e => (List.nodup_cons.mp nd).1 (e ▸ List.mem_of_getElem? h1')
    have ne' : (x == p) = false := by simpa using ne
    show (match x == p with | true => some w | false => (P.zip vs).lookup x) = some v
    rw [ne']
    exact look_zip (i := i) (List.nodup_cons.mp nd).2 h1' (by simpa using h2)
theorem look_rev {x : Str} {v : Value} {l : List (Str × Value)} (nd : (l.map (·.1)).Nodup) (h : l.lookup x = some v) : l.reverse.lookup x = some v := by
  have hm : (x, v) ∈ l := lookup_mem' h
  exact lookup_nd (by rw [List.map_reverse]; exact (List.reverse_perm _).nodup_iff.mpr nd) (List.mem_reverse.mpr hm)
where
  lookup_mem' {x : Str} {v : Value} : ∀ {l : List (Str × Value)}, l.lookup x = some v → (x, v) ∈ l
    | [], h => by cases h
    | (y, u) :: l, h => by
      by_cases e : x = y
      · subst e
        simp [List.lookup] at h
        rw [h]; exact List.mem_cons_self
      · have ne' : (x == y) = false := by simpa using e
        have h' : (match x == y with | true => some u | false => l.lookup x) = some v := h
        rw [ne'] at h'
        exact List.mem_cons_of_mem _ (lookup_mem' h')
  lookup_nd {x : Str} {v : Value} : ∀ {l : List (Str × Value)}, (l.map (·.1)).Nodup → (x, v) ∈ l → l.lookup x = some v
    | [], _, h => by cases h
    | (y, u) :: l, nd, h => by
      have nd' := List.nodup_cons.mp nd
      rcases List.mem_cons.mp h with e | e
      · cases e; simp [List.lookup]
      · have ne : x ≠ y := fun z => nd'.1 (List.mem_map.mpr ⟨(x, v), e, z⟩)
        have ne' : (x == y) = false := by simpa using ne
        show (match x == y with | true => some u | false => l.lookup x) = some v
        rw [ne']
        exact lookup_nd nd'.2 e
/-- the scope of such a def: no cells, its only free name is __class__ -/
structure SupScope (N P : List Str) (sc : Scope) : Prop where
  kind : sc.kind = .function
  co : sc.isCoroutine = false
  gen : sc.isGenerator = false
  nd : N.Nodup
  pre : N.take P.length = P
  par : ∀ x ∈ P, sc.names.lookup x = some .local
  nocell : ∀ y ∈ sc.names, y.2 ≠ .cell
  free : ∀ y ∈ sc.names, y.2 = .free → y.1 = "__class__"
/-- the context of its body -/
def cxS (CX : CXT) (P : Program) (w : World) (K : PySem.W.Frag) (mg : Str → Option Value) (base : Heap) (N : List Str) (qual : Str) (scope : Scope) (f : Addr) (cd : Value) (cc : Addr) (A : Around) (outer : List PySem.Env) (s : Shared) (H : Hp) (E : XK) : Cx where
  prog := P
  w := w
  K := K
  mg := mg
  base := base
  A := A.deeper (PySem.W.ksEnv qual scope s.heap.objs.size f cd cc)
  N := N
  s_0 := s
  H_0 := H
  env := PySem.W.ksEnv qual scope s.heap.objs.size f cd cc
  outer := outer
  stack := PySem.W.ksEnv qual scope s.heap.objs.size f cd cc :: outer
  ex := []
  calm := true
  fn := fun _ => false
  pn := []
  xe := fun e s' => wpAny (model P w) (A.deeper (PySem.W.ksEnv qual scope s.heap.objs.size f cd cc)) (leaving (PySem.W.ksEnv qual scope s.heap.objs.size f cd cc) e) (fun _ s'' => CX outer H s E e s'') (fun e' s'' => CX outer H s E e' s'') s'
section
variable {CX : CXT} {P : Program} {w : World} {K : PySem.W.Frag} {mg : Str → Option Value} {base : Heap} {N ps : List Str} {qual : Str} {scope : Scope} {f cc : Addr} {cd : Value} {A : Around} {outer : List PySem.Env} {s : Shared} {H : Hp} {E : XK}
theorem inv_sup {us : List Value} {vs : List V} {h1 : Heap} {tk : Nat} {oc : Obj} {uc : Option Value} (S : SupScope N ps scope) (hd : A.handled = none) (e0 : Env0 P w K mg base A outer s H) (hl : vs.length = ps.length) (r : Vals vs us)
    (hc : K.lookup cc = some oc) (hcd : oc.data = .cell uc) (hns : h1.Ns s.heap.objs.size (fun x => (ps.zip us).reverse.lookup x)) (hk : ∀ b o, s.heap.get? b = some o → h1.get? b = some o) :
    Inv (cxS CX P w K mg base N qual scope f cd cc A outer s H E) [] (start N vs) H { s with heap := h1, toks := tk } := by
  have hpl : ps.length ≤ N.length := by have := congrArg List.length S.pre; rw [List.length_take] at this; omega
  have noA : ∀ b : Addr, b ∉ (cxS CX P w K mg base N qual scope f cd cc A outer s H E).ex := fun b z => absurd (show b ∈ ([] : List Addr) from z) (by simp)
  have cell1 : ∀ {y : Str} {c : Addr}, (cxS CX P w K mg base N qual scope f cd cc A outer s H E).env.cells.lookup y = some c → y = "__class__" ∧ c = cc := fun {y c} h => by
    have h : (match y == ("__class__" : Str) with | true => some cc | false => none) = some c := h
    split at h
    · rename_i e
      cases h
      exact ⟨by simpa using e, rfl⟩
    · cases h
  have hb := e0.mod.kin cc oc hc
  refine ⟨⟨e0.mod, S.kind, rfl, rfl, Nat.le_refl _, fun y z c h1 h2 => (cell1 h1).1.trans (cell1 h2).1.symm, fun y hy => ?_, fun y c h _ => (by cases h), fun _ => hd, Around.frames_deeper e0.frames, .inr ⟨rfl, rfl⟩, fun b z => absurd z (noA b), e0.bs, e0.bsz, fun b _ _ => noA b, fun b z => absurd z (noA b), e0.funs, e0.frf⟩,
    rfl, e0.bare, Un.kept hk, ⟨_, hns, fun i y v h1 h2 h3 => ?_⟩, fun y c h => ?_, e0.hok.fresh (Nat.le_refl _), fun y c h => ?_, fun p hp => absurd (show p ∈ ([] : List (Addr × Obj)) from hp) (by simp), e0.hok.kept hk, ?_⟩
  · have hy : scope.names.lookup y = some .cell ∨ scope.names.lookup y = some .free := hy
    rcases hy with hy | hy
    · exact absurd rfl (S.nocell _ (PySem.mem_of_lookup hy))
    · have e := S.free _ (PySem.mem_of_lookup hy) rfl
      have e : y = "__class__" := e
      subst e
      exact ⟨cc, rfl⟩
  · have hi : i < vs.length := by
      unfold L2.start at h2
      by_cases hi : i < vs.length
      · exact hi
      · rw [List.getElem?_append_right (by simpa using hi)] at h2
        rw [List.getElem?_replicate] at h2
        split at h2 <;> cases h2
    have ha : vs[i]? = some v := by
      unfold L2.start at h2
      rw [List.getElem?_append_left (by simpa using hi), List.getElem?_map] at h2
      cases e : vs[i]? with
      | none => rw [e] at h2; cases h2
      | some a => rw [e] at h2; cases h2; rfl
    obtain ⟨u, hu, rv⟩ := r.get ha
    have hp : ps[i]? = some y := by
      rw [← S.pre, List.getElem?_take_of_lt (by omega)]; exact h1
    have ndP : ps.Nodup := by rw [← S.pre]; exact S.nd.sublist (List.take_sublist _ _)
    refine ⟨u, rv, .inl ⟨S.par y (List.mem_of_getElem? hp), ?_⟩⟩
    have hz : (ps.zip us).map (·.1) = ps := by
      rw [List.map_fst_zip]
      rw [← hl, Paired.length r]; exact Nat.le_refl _
    exact look_rev (by rw [hz]; exact ndP) (look_zip ndP hp hu)
  · obtain ⟨_, rfl⟩ := cell1 h
    exact ⟨uc, oc, hk _ _ (e0.bs _ _ hb).1, hcd⟩
  · obtain ⟨_, rfl⟩ := cell1 h
    exact (e0.bs _ _ hb).2
  · unfold L2.start
    show _ = N.length
    rw [List.length_append, List.length_map, List.length_replicate]
    omega
end
end Vl

namespace PySem
namespace ESX
open PySem.W PySem.Calls PyProof.Rows
theorem call_bwV {prog : Program} {w : World} {A : Around} {E : Value → Shared → Prop} {h : Heap} {g : Array GenState} {d : Drawn} {t : Nat} {os : OsState}
    {nm q : Str} {C N : Addr} {bs bm : List Value} {hdct : Bool} {sn : List Str} {sub : List Value} {ab : Bool} {col : Option Bool} {dd : Option Addr} {k0 k1 k2 k3 k5 : Option Value} {u e t0 : Addr} {rest : List Value} {Q : Value → Shared → Prop}
    (hC : h.get? C = some (excClassObj nm q C N bs bm hdct sn sub ab col dd k0 k1 k2 k3 k5 "ValueError.__new__")) (he : h.get? e = some (HandSPX.excO C t0)) (hu : h.get? u = some (kxs_mw "ValueError.__init__" e)) (hrest : rest.length ≤ sizeLine)
    (hq : ∀ h' t1, (∀ b o, b ≠ e → h.get? b = some o → h'.get? b = some o) → h'.get? e = some (HandSPX.excO C t1) → Q .none ⟨h', g, d, t, os⟩) :
    wpAny (model prog w) A (call (.ref u) rest) Q E ⟨h, g, d, t, os⟩ := by
  refine wpAny_call (codeAny_of_tree ?_)
  show wpAny _ A.in1 (callAny (.ref u) ⟨rest, []⟩) _ _ _
  simp only [callAny]
  refine wpAny_bind (wpAny_load hu ?_)
  simp only [kxs_mw, show (Value.type "method-wrapper" == Value.type "method" || Value.type "method-wrapper" == Value.type "builtin_function_or_method" || Value.type "method-wrapper" == Value.type "method-wrapper") = true by decide, if_true]
  refine W.KFB.if_so (by decide) ?_
  refine wpAny_bind (check_bound F.excBase_ValueError hC he rfl ?_)
  refine wpAny_bind (wpAny_pure (wpAny_pure ?_))
  refine ⟨Code.quiet_builtin _ (by decide +kernel), codeAny_builtin F.excBase_ValueError.initEntry ?_⟩
  rw [Around.under_plainId F.excBase_ValueError.init.plain _]
  wp_walk
  refine hq _ h.objs.size (fun b o hb ho => ?_) ?_
  · rw [Heap.get?_update_other _ _ (Ne.symm hb)]
    exact Heap.get?_push_of_some _ ho
  · rw [Heap.get?_update_self _ (Heap.get?_push_of_some _ he) rfl]
    rfl
end ESX
end PySem
namespace Vl
open PySem PySem.Spec PyProof.Rows L2 He
/-- what the written part says of such a class -/
structure SupC (K : PySem.W.Frag) (P : Program) (mg : Str → Option Value) (C f cc cda : Addr) (ar : Arg) : Prop where
  T : OexC K C
  fn : ∃ oc od fd osl, K.lookup f = some ⟨oc, od, .func fd, osl⟩ ∧ (fd.params.posonlyargs ++ fd.params.args).head? = some ar
  code : ∃ ccl cdd vs ccs file tf, K.lookup cda = some ⟨ccl, cdd, .fields vs, ccs⟩ ∧ vs[2]? = some (.str file tf) ∧ ((P.main.file : Str) == file) = true
  cell : ∃ cl cld csl, K.lookup cc = some ⟨cl, cld, .cell (some (.ref C)), csl⟩
  sub : PySem.W.mroIn K C (.ref C) = some true
  top : (P.main.scope.names.lookup ("super" : Str)).isSome = false
  op : PySem.W.nsIn K cStatics "thirdparty.any" = some none
  init : PySem.W.ks_superIn K C C "__init__" = some (some (.builtin "ValueError.__init__"))
  ve : PySem.W.subIn K (.ref C) (.type "ValueError") = some true
  sup : mg "super" = none
section
variable {X : Cx} {P : Program} {C f cc cda a : Addr} {ar : Arg} {qual : Str} {scope : Scope} {e : Expr} {te : TE} {p0 p1 apos pos spos : Pos} {body : List Stmt} {pins : List (Addr × Obj)} {σ : L2.St} {H : Hp} {s : Shared} {pl : Sem Bool}
theorem sup_stmt (S : SupC X.K X.prog X.mg C f cc cda ar) (he : X.env = PySem.W.ksEnv qual scope X.env.locals f (.ref cda) cc) (I : Inv X pins σ H s) (h0 : X.N[0]? = some ar.arg) (hl0 : scope.names.lookup ar.arg = some .local) (hs : σ[0]? = some (some (.ref a))) (ha : H a = some (exo a C none))
    (hks : scope.names.lookup ("super" : Str) = some .globalImplicit) (hkc : scope.names.lookup ("__class__" : Str) = some .free) (hk : scope.kind = .function)
    {Q : Flow → Shared → Prop} (pe : PE X e te) (ht : te σ H fun _ H1 => H1 a = some (exo a C none) ∧ ∀ s', Inv X pins σ H1 s' → Q .next s')
    (hc : eval (.Call (.Attribute (.Call (.Name "super" p0) [] [] p1) "__init__" apos) [e] [] pos) X.env = (do
      let ov ← attributeBase (.Call (.Name "super" p0) [] [] p1) "__init__" X.env (eval (.Call (.Name "super" p0) [] [] p1) X.env)
      standAt apos.atName
      let (f, first) ← holding [ov] (getMethod ov "__init__" pl)
      callWith pos f first (backTo pos (starEach [e] X.env)) []))
    (hst : starEach [e] X.env = (false, eval e X.env) :: starEach [] X.env) (hi : interactive X.env = false) (hsw : swapsWith (.Call (.Attribute (.Call (.Name "super" p0) [] [] p1) "__init__" apos) [e] [] pos) none spos.line X.env = pure false) :
    _root_.PySem.wpAt (model X.prog X.w) X.A (.func body X.env) (exec (.Expr (.Call (.Attribute (.Call (.Name "super" p0) [] [] p1) "__init__" apos) [e] [] pos) spos) X.env) Q X.xe s := by
  obtain ⟨foc, fod, fd, fosl, lkf, hhd⟩ := S.fn
  obtain ⟨ccl, cdd, cvs, ccs, file, tf, lkc, hv2, hfile⟩ := S.code
  obtain ⟨cl, cld, csl, lcell⟩ := S.cell
  obtain ⟨nm, q, Nn, bs, bm, sn, sub, ab, col, dd, k0, k1, k2, k3, k5, hC, hbm⟩ := S.T.cls
  have KX : X.K.In s.heap := I.kIn
  obtain ⟨m, hns, hloc⟩ := I.loc
  obtain ⟨u0, ru, lk0⟩ := hloc 0 ar.arg (.ref a) h0 hs (.inl (by rw [he]; exact hl0))
  have eu : u0 = .ref a := ru
  subst eu
  have hm0 : m ar.arg = some (.ref a) := by
    rcases lk0 with ⟨_, z⟩ | ⟨z, _⟩
    · exact z
    · exfalso
      rw [he] at z
      have z : scope.names.lookup ar.arg = some .cell ∨ scope.names.lookup ar.arg = some .free := z
      rw [hl0] at z
      rcases z with z | z <;> cases z
  obtain ⟨t1, hoa⟩ := exo_at I.hok ha
  refine PySem.ks_wpAt_Expr_any (PySem.ks_wpAt_MethodCall (pl := pl) ?_ hc) hi hsw
  have kenv : X.env.kindOf "super" = some .globalImplicit := by rw [he]; exact hks
  have kcls : X.env.kindOf "__class__" = some .free := by rw [he]; exact hkc
  have karg : X.env.kindOf ar.arg = some .local := by rw [he]; exact hl0
  have kfun : X.env.scope.kind = .function := by rw [he]; exact hk
  refine PySem.ks_wpAt_super_base kenv kcls rfl (by rw [he]) (KX _ _ lkf) rfl hhd (by rw [he]) (KX _ _ lkc) rfl hv2 hfile S.top ?_
  obtain ⟨mb, b1, b2⟩ := I.mod.blt
  refine PySem.W.ks_loadName_global kfun kenv (Calls.loadGlobal_builtin (by rw [I.ok.glob]; exact I.mod.glob.keeps I.bk) S.sup (by rw [I.ok.blt]; exact b1.keeps I.bk) ((b2 "super" (by decide)).trans PyProof.Rows.Boot.«super») ⟨rfl, ?_⟩)
  refine wpAny_loadName_free kfun kcls (c := cc) (v := .ref C) (by rw [he]; rfl) ⟨_, KX _ _ lcell, rfl⟩ ?_
  refine wpAny_loadName_local kfun karg hns hm0 ?_
  obtain ⟨hh, g, d, tk, os⟩ := s
  have hCo : hh.get? C = some _ := KX _ _ hC
  refine PySem.ks_wpAny_isType_cls (KX _ _ hC) rfl ⟨rfl, ?_⟩
  refine PySem.ks_wpAny_call_super (KX _ _ hC) rfl hoa rfl (fun c z => by cases z) (PySem.W.looks_mroIn KX S.sub) (fun h' eo k => ?_)
  have I1 : Inv X pins σ H ⟨h', g, d, tk, os⟩ := I.kept (t' := tk) k
  have KX1 : X.K.In h' := I1.kIn
  obtain ⟨cd, hcd, hal⟩ := Option.bind_eq_some_iff.mp S.init
  have hxC : a ≠ C := fun z => by
    subst z
    rw [hoa] at hCo
    cases hCo
  have Ia : PySem.W.InstAt h' a _ C none := ⟨k _ _ hoa, rfl, rfl, trivial⟩
  have hI : PySem.W.Looks (model X.prog X.w) h' (isInstance (.ref a) (.type "ValueError")) true := Ia.type.andThen (PySem.W.looks_subIn KX1 S.ve)
  refine PySem.W.kxs_getMethod PySem.W.kxs_ValueError eo (PySem.W.looks_opaque KX1 S.op) (l₀ := cd.mro) (fun A Q E s k q => wpAny_bind ((PySem.W.looks_clsIn KX1 hcd) A _ E s k (wpAny_pure q))) rfl KX1 hal hI hxC rfl ?_
  have k2 : ∀ b o, h'.get? b = some o → (h'.push (PySem.W.kxs_mw "ValueError.__init__" a)).get? b = some o := fun b o z => Heap.get?_push_of_some _ z
  have hu : (h'.push (PySem.W.kxs_mw "ValueError.__init__" a)).get? h'.objs.size = some (PySem.W.kxs_mw "ValueError.__init__" a) := Heap.get?_push_at rfl rfl
  have I2 : Inv X pins σ H ⟨h'.push (PySem.W.kxs_mw "ValueError.__init__" a), g, d, tk + 1, os⟩ := I1.kept (t' := tk + 1) k2
  obtain ⟨f0, f1, f2, f3, f4, f5⟩ := I1.fpOk (Nat.le_refl _) (I1.hok.fresh (Nat.le_refl _))
  have I3 : Inv X ((h'.objs.size, PySem.W.kxs_mw "ValueError.__init__" a) :: pins) σ H ⟨h'.push (PySem.W.kxs_mw "ValueError.__init__" a), g, d, tk + 1, os⟩ := I2.pins_of fun p hp => by
    rcases List.mem_cons.mp hp with z | z
    · subst z
      exact ⟨hu, f0, f1, f2, fun v z => by cases z⟩
    · exact I2.pin p (List.mem_append_right _ z)
  show wpAny _ _ (callWith pos (Value.ref h'.objs.size) [] (backTo pos (starEach [e] X.env)) []) _ _ _
  rw [hst]
  refine PySem.W.kxs_callWith (i := "ValueError.__init__") (x := a) rfl (Calls.evalArgs_plain (Calls.spliced_cons (thn (pe.run _ _ σ H _ I3 ht) fun iv s2 ⟨y, H2, I4, ry, ha2, q2⟩ => Calls.spliced_nil ?_)))
  obtain ⟨hu4, _⟩ := I4.pin (h'.objs.size, PySem.W.kxs_mw "ValueError.__init__" a) (List.mem_append_right _ List.mem_cons_self)
  have I5 : Inv X pins σ H2 s2 := I4.pins_of fun p hp => I4.pin p (List.mem_append_right _ (List.mem_cons_of_mem _ hp))
  refine ⟨hu4, ?_⟩
  obtain ⟨t2, hoa2⟩ := exo_at I5.hok ha2
  obtain ⟨h2, g2, d2, tk2, os2⟩ := s2
  refine PySem.ESX.call_bwV (I5.kIn _ _ hC) hoa2 hu4 (by show 1 ≤ sizeLine; rw [sizeLine_eq]; omega) fun h3 t3 k3 hx3 => ?_
  have J := I5.write (t' := tk2) (x := a) (e := a) (o := exo a C none) (by rw [ha2]; exact True.intro) (.inl rfl) k3 ⟨_, hx3⟩ (exo_ok hx3)
  have eu : upd H2 a (exo a C none) = H2 := by
    funext b
    by_cases hb : b = a
    · rw [hb, upd_same, ha2]
    · rw [upd_ne hb]
  rw [eu] at J
  exact q2 _ J
end
end Vl

namespace Vl
open PySem PySem.Spec PyProof.Rows L2 He
section
variable {c : Vc} {X : Cx} {W : WX} {b : Bool} {O O1 O2 O' : Addr → Prop} {fp fp1 fp2 fp' : List Addr} {H H1 H2 H' : Hp} {ρ ρ1 ρ2 : Env} {σ σ1 : L2.St}
variable {a e e' : Expr} {es : List Expr} {fa fb : FE} {pos p : Pos}
/-! ### f-strings -/
def fmtD : D → Option Str
  | .str y => if y.length ≤ 1000000 then some y else none
  | .int i => if i.natAbs ≤ 1000000000000000000000 then some (Str.ofString (toString i)) else none
  | _ => none
def gFmt (d : D) : Option Val := (fmtD d).map fun y => .fr (.str y)
theorem log_lt {i : Nat} (h : i ≤ 1000000000000000000000) : i.log2 < 1920 := by
  by_cases z : i = 0
  · subst z; decide
  · rw [Nat.log2_lt z]
    exact Nat.lt_of_le_of_lt h (Nat.lt_of_lt_of_le (show 1000000000000000000000 < 2 ^ 70 by decide) (Nat.pow_le_pow_right (by decide) (by decide)))
theorem x_fmt (ha : VE c X W b a fa) : VE c X W b (.FormattedValue a (-1) none pos) (vUn gFmt fa) := by
  obtain ⟨ta, pa, oa⟩ := ha
  refine ⟨_, pe_fmt pa, fun O fp H ρ σ Q S h => oa.thn S.tr S .refl (fun _ => .refl) h id fun w ρ1 u H1 O1 fp1 g1 _ S1 E1 _ I1 R1 F1 h1 => ?_⟩
  cases e1 : w1 gFmt w ρ1 with
  | none => simp only [v1, e1] at h1; exact h1.elim
  | some w' =>
    simp only [v1, e1] at h1
    obtain ⟨d, h2, h3⟩ := Option.bind_eq_some_iff.mp e1
    have pk := R1.vw S1 h2
    obtain ⟨y, h4, h5⟩ := Option.map_eq_some_iff.mp h3
    subst h5
    cases d with
    | str z =>
      by_cases hz : z.length ≤ 1000000
      · have e : fmtD (.str z) = some z := if_pos hz
        rw [e] at h4
        cases h4
        exact .inl ⟨_, pk, by rw [sizeLine_eq]; omega, Post.pr h1 S.tr S1 E1 I1 (.same rfl)⟩
      · have e : fmtD (.str z) = none := if_neg hz
        rw [e] at h4; cases h4
    | int i =>
      by_cases hz : i.natAbs ≤ 1000000000000000000000
      · have e : fmtD (.int i) = some (Str.ofString (toString i)) := if_pos hz
        rw [e] at h4
        cases h4
        exact .inr ⟨i, pk, log_lt hz, Post.pr h1 S.tr S1 E1 I1 (.same rfl)⟩
      · have e : fmtD (.int i) = none := if_neg hz
        rw [e] at h4; cases h4
    | _ => cases h4
def strOf : Val → Option Str
  | .fr (.str y) => some y
  | _ => none
def vJs : List FE → Str → FE
  | [], acc => ret (.fr (.str acc))
  | f :: fs, acc => bnd f fun w ρ => match strOf w with
    | some y => if (acc ++ y).length ≤ 1000000 then vJs fs (acc ++ y) ρ else none
    | none => none
inductive VJ (c : Vc) (X : Cx) (W : WX) (b : Bool) : List Expr → List FE → Prop where
  | nil : VJ c X W b [] []
  | cons {e : Expr} {f : FE} {es : List Expr} {fs : List FE} (h : VE c X W b e f) (r : VJ c X W b es fs) : VJ c X W b (e :: es) (f :: fs)
theorem VJ.pj {es : List Expr} {fs : List FE} (h : VJ c X W b es fs) : ∃ ts, PJ X es ts ∧ ∀ (acc : Str) (O : Addr → Prop) (fp : List Addr) (H : Hp) (O0 : Addr → Prop) (fp0 : List Addr) (H0 : Hp) (ρ : Env) (σ : L2.St) (Q : V → Hp → Prop), (∀ b, O0 b → nT (H0 b)) → SR c O fp H ρ σ → Ext fp0 O0 H0 fp O H → (b = true → Ins H0 H) →
    Post (RV c) c W b O0 fp0 H0 σ (vJs fs acc ρ) Q → tJs ts acc σ H fun out H1 => Q (.str out) H1 := by
  induction h with
  | nil => exact ⟨[], .nil, fun acc O fp H O0 fp0 H0 ρ σ Q S0 S E I h => h (.str acc) H O fp [] S E I ⟨rfl, rfl⟩ fun _ q => (by cases q)⟩
  | @cons e f es fs h r ih =>
    obtain ⟨t, pt, ot⟩ := h
    obtain ⟨ts, pts, ok⟩ := ih
    refine ⟨t :: ts, .cons pt pts, fun acc O fp H O0 fp0 H0 ρ σ Q S0 S E I h => ?_⟩
    refine ot.thn S0 S E I h id fun w ρ1 u H1 O1 fp1 g1 _ S1 E1 _ I1 R1 F1 h1 => ?_
    cases es : strOf w with
    | none => simp only [es] at h1; exact h1.elim
    | some y =>
      simp only [es] at h1
      by_cases hz : (acc ++ y).length ≤ 1000000
      case neg => rw [if_neg hz] at h1; exact h1.elim
      rw [if_pos hz] at h1
      have ew : w = .fr (.str y) := by
        unfold strOf at es
        split at es
        · cases es; rfl
        · cases es
      subst ew
      exact ⟨y, R1.1, by rw [sizeLine_eq]; omega, ok (acc ++ y) O1 fp1 H1 O0 fp0 H0 ρ1 σ Q S0 S1 E1 I1 h1⟩
def vJoin (fs : List FE) : FE := vJs fs Str.empty
theorem x_join {v1 v2 : Expr} {rest : List Expr} {fs : List FE} (h : VJ c X W b (v1 :: v2 :: rest) fs) : VE c X W b (.JoinedStr (v1 :: v2 :: rest) pos) (vJoin fs) := by
  obtain ⟨ts, pts, ok⟩ := h.pj
  exact ⟨_, pe_joined pts, fun O fp H ρ σ Q S h => ok Str.empty O fp H O fp H ρ σ Q S.tr S .refl (fun _ => .refl) h⟩
theorem x_join1 (ha : VE c X W b a fa) : VE c X W b (.JoinedStr [a] pos) fa := by
  obtain ⟨ta, pa, oa⟩ := ha
  exact ⟨_, pe_joined1 pa, oa⟩
end
end Vl

namespace Vl
open PySem PySem.Spec PyProof.Rows L2 He
/-! ### the fields of an own exception -/
def tF (K : PySem.W.Frag) : List (Str × Nat) → TS
  | [] => fun D σ H => D.nx σ H
  | [p] => tOst K p.1 (tVar 0) (tVar p.2)
  | p :: r => tSeq (tOst K p.1 (tVar 0) (tVar p.2)) (tF K r)
section
variable {X : Cx} {K : PySem.W.Frag} {C a d : Addr} {σ : L2.St} {H : Hp} {D : Ends} {v : Nat → V}
def flV (v : Nat → V) (l : List (Str × Nat)) : List (Str × V) := l.map fun p => (p.1, v p.2)
theorem tF_old (T : OexC K C) : ∀ {l : List (Str × Nat)} {fs : List (Str × V)} {H : Hp}, l ≠ [] → σ[0]? = some (some (.ref a)) → (∀ p ∈ l, PySem.W.findIn K (.ref C) p.1 = some none ∧ σ[p.2]? = some (some (v p.2))) → H a = some (exo a C (some d)) → H d = some (exd d fs) → fs.length + l.length ≤ 900 → a ≠ d →
    (∀ H2, H2 a = some (exo a C (some d)) → H2 d = some (exd d ((flV v l).reverse ++ fs)) → (∀ b, b ≠ d → H2 b = H b) → D.nx σ H2) → tF K l D σ H
  | [], _, _, hn, _, _, _, _, _, _, _ => absurd rfl hn
  | [p], fs, H, _, h0, hl, ha, hd, hz, ne, q => by
    obtain ⟨h1, h2⟩ := hl p (by simp)
    refine ⟨v p.2, h2, .ref a, h0, a, C, rfl, T, h1, .inr ⟨d, fs, ha, hd, by simp at hz; omega, ?_⟩⟩
    exact q _ (by rw [upd_ne ne]; exact ha) upd_same fun b hb => upd_ne hb
  | p :: p2 :: r, fs, H, _, h0, hl, ha, hd, hz, ne, q => by
    obtain ⟨h1, h2⟩ := hl p (by simp)
    refine ⟨v p.2, h2, .ref a, h0, a, C, rfl, T, h1, .inr ⟨d, fs, ha, hd, by simp at hz; omega, ?_⟩⟩
    refine tF_old T (l := p2 :: r) (fs := (p.1, v p.2) :: fs) (by simp) h0 (fun p' hp => hl p' (List.mem_cons_of_mem _ hp)) (by rw [upd_ne ne]; exact ha) upd_same (by simp at hz ⊢; omega) ne fun H2 q1 q2 q3 => ?_
    refine q H2 q1 ?_ fun b hb => (q3 b hb).trans (upd_ne hb)
    rw [q2]
    simp [flV]
theorem tF_new (T : OexC K C) {l : List (Str × Nat)} (hn : l ≠ []) (h0 : σ[0]? = some (some (.ref a))) (hl : ∀ p ∈ l, PySem.W.findIn K (.ref C) p.1 = some none ∧ σ[p.2]? = some (some (v p.2))) (ha : H a = some (exo a C none)) (hz : l.length ≤ 900)
    (q : ∀ H2 d, H d = none → d ≠ a → H2 a = some (exo a C (some d)) → H2 d = some (exd d (flV v l).reverse) → (∀ b, b ≠ a → b ≠ d → H2 b = H b) → D.nx σ H2) : tF K l D σ H := by
  cases l with
  | nil => exact absurd rfl hn
  | cons p r =>
    obtain ⟨h1, h2⟩ := hl p (by simp)
    cases r with
    | nil =>
      refine ⟨v p.2, h2, .ref a, h0, a, C, rfl, T, h1, .inl ⟨ha, fun dx hdx ne => ?_⟩⟩
      exact q _ dx hdx ne upd_same (by rw [upd_ne ne]; exact upd_same) fun b b1 b2 => (upd_ne b1).trans (upd_ne b2)
    | cons p2 r =>
      refine ⟨v p.2, h2, .ref a, h0, a, C, rfl, T, h1, .inl ⟨ha, fun dx hdx ne => ?_⟩⟩
      refine tF_old T (l := p2 :: r) (fs := [(p.1, v p.2)]) (d := dx) (by simp) h0 (fun p' hp => hl p' (List.mem_cons_of_mem _ hp)) upd_same (by rw [upd_ne ne]; exact upd_same) (by simp at hz ⊢; omega) (Ne.symm ne) fun H2 q1 q2 q3 => ?_
      refine q H2 dx hdx ne q1 ?_ fun b b1 b2 => (q3 b b2).trans ((upd_ne b1).trans (upd_ne b2))
      rw [q2]
      simp [flV]
theorem psF_one {x y f : Str} {i : Nat} {p p' p2 pos : Pos} (h0 : X.N[0]? = some x) (hv0 : Vis X.env.scope x) (hi : X.N[i]? = some y) (hvi : Vis X.env.scope y) (hd0 : (x == ("__debug__" : Str)) = false := by decide) (hc0 : (x == ("__classdict__" : Str)) = false := by decide) (hdi : (y == ("__debug__" : Str)) = false := by decide) (hci : (y == ("__classdict__" : Str)) = false := by decide)
    (hs : swapsWith (.Name y p2) (some (.Attribute (.Name x p) f p')) pos.line X.env = pure false := by rfl) : PSs X [.Assign [.Attribute (.Name x p) f p'] (.Name y p2) pos] (tF X.K [(f, i)]) :=
  pss_one (ps_ost (pe_var h0 hv0 hd0 hc0) (pe_var hi hvi hdi hci) hs)
theorem psF_cons {x y f : Str} {i : Nat} {p p' p2 pos : Pos} {st : List Stmt} {q : Str × Nat} {r : List (Str × Nat)} (hr : PSs X st (tF X.K (q :: r))) (h0 : X.N[0]? = some x) (hv0 : Vis X.env.scope x) (hi : X.N[i]? = some y) (hvi : Vis X.env.scope y) (hd0 : (x == ("__debug__" : Str)) = false := by decide) (hc0 : (x == ("__classdict__" : Str)) = false := by decide) (hdi : (y == ("__debug__" : Str)) = false := by decide) (hci : (y == ("__classdict__" : Str)) = false := by decide)
    (hs : swapsWith (.Name y p2) (some (.Attribute (.Name x p) f p')) pos.line X.env = pure false := by rfl) : PSs X (.Assign [.Attribute (.Name x p) f p'] (.Name y p2) pos :: st) (tF X.K ((f, i) :: q :: r)) :=
  pss_cons (ps_ost (pe_var h0 hv0 hd0 hc0) (pe_var hi hvi hdi hci) hs) hr
end
end Vl

namespace Vl
open PySem PySem.Spec PyProof.Rows L2 He
def xEnv (ds : List D) : Env := some .hole :: ds.map fun d => some (.fr d)
/-- what an own exception's __init__ keeps -/
def spX (c : Vb) (C : Addr) (flds : List (Str × Nat)) (fe : FE) (n : Nat) : Sp := fun vs H Q _ => vs.length = n + 1 ∧ ∃ (a : Addr) (ws : List V) (ds : List D) (O : Addr → Prop), vs = .ref a :: ws ∧ H a = some (exo a C none) ∧ RDs c O H ds ws ∧ (∀ b, O b → nT (H b)) ∧ Tabs c H ∧ (∃ w ρ', fe (xEnv ds) = some (.val w ρ')) ∧
  ∀ H2 d, H d = none → d ≠ a → H2 a = some (exo a C (some d)) → H2 d = some (exd d (flV (fun i => (vs[i]?).getD .non) flds).reverse) → (∀ b, nT (H b) → b ≠ a → H2 b = H b) → (∀ b, H b ≠ none → H2 b ≠ none) → Tabs c H2 → Q .non H2
section
variable {c : Vb} {P : Program} {w : World} {mg : Str → Option Value} {base : Heap} {k n : Nat} {C f cc cda : Addr} {ar : Arg} {name qual : Str} {params : Arguments} {scope : Scope} {rest : List Stmt} {e : Expr} {p0 p1 apos pos spos : Pos} {fe : FE} {flds : List (Str × Nat)} {ps : List Str}
  {dV kV doc pm ct oc : Value} {an od : Option Addr} {osl : Array (Option Value)}
theorem rs_rest {O : Addr → Prop} {H : Hp} : ∀ {ds : List D} {ws : List V}, RDs c O H ds ws → RS c O H (ds.map fun d => some (.fr d)) (ws.map some) []
  | [], _, h => by rw [show _ = [] from h]; exact ⟨rfl, rfl⟩
  | d :: ds, _, ⟨v, r, e, h, t⟩ => by
    subst e
    exact ⟨v, _, [], [], rfl, ⟨h, rfl⟩, rs_rest t, rfl⟩
abbrev supE (p0 p1 apos pos : Pos) (e : Expr) : Expr := .Call (.Attribute (.Call (.Name "super" p0) [] [] p1) "__init__" apos) [e] [] pos
theorem fn_sup (pl : PySem.Env → Sem Bool) (S : SupC c.K P mg C f cc cda ar) (lk : c.K.lookup f = some ⟨oc, od, .func (PySem.W.ksFn name qual params (.Expr (supE p0 p1 apos pos e) spos :: rest) scope dV kV doc pm an (.ref cda) ct cc), osl⟩)
    (hcd : PySem.W.codeIn c.K (.ref cda) qual = true) (Sc : SupScope ps ps scope) (hlen : ps.length = n + 1) (har : ps[0]? = some ar.arg)
    (hks : scope.names.lookup ("super" : Str) = some .globalImplicit) (hkc : scope.names.lookup ("__class__" : Str) = some .free)
    (hev : ∀ (A : Around) (outer : List PySem.Env) (s : Shared) (H : Hp) (E : XK), VE ⟨c, []⟩ (cxS (L2.CX P w) P w c.K mg base ps qual scope f (.ref cda) cc A outer s H E) W0 false e fe)
    (hrs : ∀ (A : Around) (outer : List PySem.Env) (s : Shared) (H : Hp) (E : XK), PSs (cxS (L2.CX P w) P w c.K mg base ps qual scope f (.ref cda) cc A outer s H E) rest (tF c.K flds))
    (hfl : flds ≠ [] ∧ flds.length ≤ 900 ∧ ∀ p ∈ flds, PySem.W.findIn c.K (.ref C) p.1 = some none ∧ p.2 ≤ n)
    (hc : ∀ L, eval (supE p0 p1 apos pos e) (PySem.W.ksEnv qual scope L f (.ref cda) cc) = (do
      let ov ← attributeBase (.Call (.Name "super" p0) [] [] p1) "__init__" (PySem.W.ksEnv qual scope L f (.ref cda) cc) (eval (.Call (.Name "super" p0) [] [] p1) (PySem.W.ksEnv qual scope L f (.ref cda) cc))
      standAt apos.atName
      let (f', first) ← holding [ov] (getMethod ov "__init__" (pl (PySem.W.ksEnv qual scope L f (.ref cda) cc)))
      callWith pos f' first (backTo pos (starEach [e] (PySem.W.ksEnv qual scope L f (.ref cda) cc))) []) := by intro _; rfl)
    (hst : ∀ L, starEach [e] (PySem.W.ksEnv qual scope L f (.ref cda) cc) = (false, eval e (PySem.W.ksEnv qual scope L f (.ref cda) cc)) :: starEach [] (PySem.W.ksEnv qual scope L f (.ref cda) cc) := by intro _; rfl)
    (hi : ∀ L, interactive (PySem.W.ksEnv qual scope L f (.ref cda) cc) = false := by intro _; rfl)
    (hsw : ∀ L, swapsWith (supE p0 p1 apos pos e) none spos.line (PySem.W.ksEnv qual scope L f (.ref cda) cc) = pure false := by intro _; rfl) :
    FnOk P w c.K mg base (L2.CX P w) (k + 1) f (PySem.W.ksFn name qual params (.Expr (supE p0 p1 apos pos e) spos :: rest) scope dV kV doc pm an (.ref cda) ct cc) ps (spX c C flds fe n) := by
  refine ⟨fun vs H Q E h => h.1.trans hlen.symm, fun A outer s H args us vs Q E hr e0 hb r hsp => ?_⟩
  obtain ⟨hvl, a, ws, ds, O, ev, ha, rd, tr, tb, ⟨w0, ρ0, hfe⟩, q⟩ := hsp
  have hl : vs.length = ps.length := hvl.trans hlen.symm
  have KX : c.K.In s.heap := e0.mod.kin.keeps fun b o e => (e0.bs b o e).1
  have lim : s.heap.NoLimit := e0.mod.nolimit.keeps fun b o e => (e0.bs b o e).1
  obtain ⟨cl, cld, csl, lcell⟩ := S.cell
  refine PySem.ks_codeAny_call_defAt (fd := PySem.W.ksFn name qual params (.Expr (supE p0 p1 apos pos e) spos :: rest) scope dV kV doc pm an (.ref cda) ct cc) (binds := ps.zip us) hr.depth (KX _ _ lk) rfl lim (PySem.W.codeRec_of KX hcd) rfl hb Sc.nocell (fun y hy => Sc.par _ (List.of_mem_zip hy).1) (fun h1 hns hk => ?_) Sc.co Sc.gen Sc.kind
  have I := inv_sup (CX := L2.CX P w) (N := ps) (qual := qual) (f := f) (cd := .ref cda) (E := E) (tk := s.toks + (ps.zip us).length) Sc hr.hd e0 hl r lcell rfl hns hk
  have hstart : L2.start ps vs = some (.ref a) :: ws.map some := by
    unfold L2.start
    rw [hl, Nat.sub_self, ev]
    simp
  have S0 : SR ⟨c, []⟩ O [] H (xEnv ds) (L2.start ps vs) := by
    rw [hstart]
    exact ⟨⟨.ref a, _, [], [], rfl, rfl, rs_rest rd, rfl⟩, .nil, fun _ h => (by cases h), tr, tb, fun _ h => (by cases h)⟩
  obtain ⟨te, pe, oe⟩ := hev A outer s H E
  obtain ⟨fl1, fl2, fl3⟩ := hfl
  have hrs' := hrs A outer s H E
  have key : ∀ R : Shared → Prop, (∀ s', (∃ σ' H', Inv (cxS (L2.CX P w) P w c.K mg base ps qual scope f (.ref cda) cc A outer s H E) [] σ' H' s' ∧ tF c.K flds { nx := fun _ H' => Q .non H', rt := Q } σ' H') → R s') → te (L2.start ps vs) H fun _ H1 => H1 a = some (exo a C none) ∧ ∀ s', Inv (cxS (L2.CX P w) P w c.K mg base ps qual scope f (.ref cda) cc A outer s H E) [] (L2.start ps vs) H1 s' →
      R s' := by
    intro R hR
    refine oe O [] H (xEnv ds) _ _ S0 ?_
    rw [hfe]
    intro u H' O' fp' g S1 E1 _ _ _
    have ha1 : H' a = some (exo a C none) := (E1.kp a (.of ha) (by simp)).trans ha
    refine ⟨ha1, fun s' J => hR s' ⟨_, H', J, ?_⟩⟩
    refine tF_new (v := fun i => (vs[i]?).getD .non) S.T fl1 (by rw [hstart]; rfl) (fun p hp => ⟨(fl3 p hp).1, ?_⟩) ha1 fl2 fun H2 d hd ne q1 q2 q3 => ?_
    · have hi : p.2 < vs.length := by rw [hvl]; have := (fl3 p hp).2; omega
      unfold L2.start
      rw [List.getElem?_append_left (by simpa using hi), List.getElem?_map, List.getElem?_eq_getElem hi]
      rfl
    · have hd0 : H d = none := Classical.byContradiction fun z => E1.th d z hd
      refine q H2 d hd0 ne q1 q2 (fun b hb nb => ?_) (fun b hb => ?_) fun T hT => ?_
      · have nd : b ≠ d := fun z => hb.ne (z ▸ hd0)
        exact (q3 b nb nd).trans (E1.kp b hb (by simp))
      · by_cases z : b = a
        · rw [z, q1]; simp
        · by_cases z2 : b = d
          · exact absurd (z2 ▸ hd0) hb
          · rw [q3 b z z2]; exact E1.th b hb
      · obtain ⟨ps', e', k'⟩ := S1.tb T hT
        refine ⟨ps', ?_, k'⟩
        rw [q3 T (fun z => by rw [z, ha1] at e'; exact exo_tbl (Option.some.inj e')) (fun z => by rw [z, hd] at e'; cases e')]
        exact e'
  have h0 : (cxS (L2.CX P w) P w c.K mg base ps qual scope f (.ref cda) cc A outer s H E).N[0]? = some ar.arg := har
  have hl0 : scope.names.lookup ar.arg = some .local := Sc.par _ (List.mem_of_getElem? har)
  refine PySem.ks_wpAt_execs_cons (sup_stmt (X := cxS (L2.CX P w) P w c.K mg base ps qual scope f (.ref cda) cc A outer s H E) (pl := pl _) S rfl I h0 hl0 (by rw [hstart]; rfl) ha hks hkc Sc.kind pe (key _ fun s' q => ?_) (hc _) (hst _) (hi _) (hsw _))
  obtain ⟨σ', H', J, t⟩ := q
  refine _root_.PySem.wpAt_of_wpAny (wpAny_mono (hrs'.run [] s' σ' H' _ J t) (fun fl s'' hs => ?_) fun e s'' hs => hs)
  have fin : ∀ {σ' : L2.St} {H' : Hp} {v : V} {u : Value}, Inv (cxS (L2.CX P w) P w c.K mg base ps qual scope f (.ref cda) cc A outer s H E) [] σ' H' s'' → RelV v u → Q v H' → CE outer P w H s Q u s'' :=
    fun {σ' H' v u} J rv q => ⟨v, H', J.os, J.bare, J.base, J.hok, rv, q⟩
  cases fl with
  | ret u =>
    obtain ⟨v, σ', H', J, rv, q⟩ := hs
    exact fin J rv q
  | next =>
    obtain ⟨σ', H', J, q⟩ := hs
    exact fin (v := V.non) (u := Value.none) J rfl q
  | brk =>
    obtain ⟨_, _, _, q⟩ := hs
    exact False.elim q
  | cont =>
    obtain ⟨_, _, _, q⟩ := hs
    exact False.elim q
end
end Vl

namespace Vl
open PySem PySem.Spec PyProof.Rows L2 He
/-! ### raise C(e, ..), C's own __init__ -/
structure XOk (P : Program) (w : World) (c : Vb) (mg : Str → Option Value) (base : Heap) (L : Nat) (nm : Str) (flds : List (Str × Nat)) (fe : FE) (n : Nat) : Prop where
  T : OexC c.K (c.cl nm)
  fn : ∃ fI fd ps, PySem.W.findIn c.K (.ref (c.cl nm)) "__init__" = some (some (.ref fI)) ∧ PySem.W.typeIn c.K (.ref fI) = some (.type "function") ∧ FnOk P w c.K mg base (L2.CX P w) L fI fd ps (spX c (c.cl nm) flds fe n) ∧ Binds c.K fd ps []
  fl : flds ≠ [] ∧ ∀ p ∈ flds, 1 ≤ p.2 ∧ p.2 ≤ n
section
variable {c : Vc} {X : Cx} {W : WX} {b : Bool} {bor : List Nat} {O O1 O2 O' : Addr → Prop} {fp fp1 fp2 fp' : List Addr} {H H1 H2 H' : Hp} {ρ ρ1 ρ2 : Env} {σ σ1 : L2.St} {k n : Nat}
variable {e : Expr} {es : List Expr} {fs : FG (List Val)} {fe : FE} {pos pos' p : Pos} {x nm : Str} {flds : List (Str × Nat)}
theorem RDf.snoc : ∀ {l : List (Str × D)} {vs : List (Str × V)} {f : Str} {d : D} {v : V}, RDf c O H l vs → RD c O H d v → RDf c O H (l ++ [(f, d)]) (vs ++ [(f, v)])
  | [], _, f, d, v, h, r => by
    rw [show _ = [] from h]
    exact ⟨v, [], rfl, r, (rfl : ([] : List (Str × V)) = [])⟩
  | (k, d0) :: l, _, f, d, v, ⟨v0, r0, e, h1, h2⟩, r => by
    subst e
    exact ⟨v0, _, rfl, h1, RDf.snoc h2 r⟩
theorem RDf.rev : ∀ {l : List (Str × D)} {vs : List (Str × V)}, RDf c O H l vs → RDf c O H l.reverse vs.reverse
  | [], _, h => by rw [show _ = [] from h]; exact (rfl : ([] : List (Str × V)) = [])
  | (k, d0) :: l, _, ⟨v0, r0, e, h1, h2⟩ => by
    subst e
    rw [List.reverse_cons, List.reverse_cons]
    exact RDf.snoc (RDf.rev h2) h1
def flD (ds : List D) (l : List (Str × Nat)) : List (Str × D) := l.map fun p => (p.1, (ds[p.2 - 1]?).getD .non)
theorem RDf.fl {ds : List D} {us : List V} {a : Addr} (r : RDs c O H ds us) : ∀ {l : List (Str × Nat)}, (∀ p ∈ l, 1 ≤ p.2 ∧ p.2 ≤ ds.length) → RDf c O H (flD ds l) (flV (fun i => ((V.ref a :: us)[i]?).getD .non) l)
  | [], _ => (rfl : ([] : List (Str × V)) = [])
  | p :: l, h => by
    obtain ⟨h1, h2⟩ := h p (by simp)
    obtain ⟨d, hd⟩ : ∃ d, ds[p.2 - 1]? = some d := ⟨_, List.getElem?_eq_getElem (show p.2 - 1 < ds.length by omega)⟩
    obtain ⟨v, hv, rv⟩ := r.get hd
    refine ⟨v, flV (fun i => ((V.ref a :: us)[i]?).getD .non) l, ?_, by rw [hd]; exact rv, RDf.fl (a := a) r fun q hq => h q (List.mem_cons_of_mem _ hq)⟩
    have e : (V.ref a :: us)[p.2]? = some v := by
      have e2 : p.2 = (p.2 - 1) + 1 := by omega
      rw [e2, List.getElem?_cons_succ]; exact hv
    show (p.1, ((V.ref a :: us)[p.2]?).getD .non) :: _ = _
    rw [e]
    rfl
def xExn (nm : Str) (flds : List (Str × Nat)) (ds : List D) : Exn := ⟨nm, (flD ds flds).reverse⟩
def isVal {α : Type} : Option (Out α) → Bool
  | some (.val _ _) => true
  | _ => false
def kRaiseX (nm : Str) (flds : List (Str × Nat)) (fe : FE) (n : Nat) (ws : List Val) : FS := fun ρ => match fzs ws with
  | some ds => if ds.length = n ∧ n ≤ 1000 ∧ isVal (fe (xEnv ds)) = true then some (.exc (xExn nm flds ds) ρ) else none
  | none => none
def sRaiseX (nm : Str) (flds : List (Str × Nat)) (fe : FE) (n : Nat) (fs : FG (List Val)) : FS := exS fs (kRaiseX nm flds fe n)
theorem vs_raiseX (Xo : XOk X.prog X.w c.toVb X.mg X.base k nm flds fe n) (hK : X.K = c.K) (hc : X.calm = true) (hr : Room (k + 1) X.A) (tk : Takes X W) (hx : Passes (L2.CX X.prog X.w) X (fun _ _ _ => False)) (hm : X.mg x = some (.ref (c.cl nm))) (ha : VA c X W false (e :: es) fs) (hg : Gl X x := by rfl) (hdb : (x == ("__debug__" : Str)) = false := by decide)
    (he : starEach (e :: es) X.env = (false, eval e X.env) :: starEach es X.env := by rfl) (hpl : (backTo pos (starEach es X.env)).any (·.1) = false := by rfl) : VS c X W bor (.Raise (some (.Call (.Name x p) (e :: es) [] pos)) none pos') (sRaiseX nm flds fe n fs) := by
  obtain ⟨T, ⟨fI, fd, ps, iC, tI, Fk, hb⟩, fl1, fl2⟩ := Xo
  obtain ⟨ts, pa, oa⟩ := ha
  refine ⟨_, ps_raise hc tk (pmk_oex (by rw [hK]; exact T) (by rw [hK]; exact iC) (by rw [hK]; exact tI) (by rw [hK]; exact Fk) hr (by rw [hK]; exact hb) .nil hx hg hm pa hdb he hpl), fun O fp H ρ σ D S h => ?_⟩
  refine oa.stm S.tr S .refl .refl h fun ws ρ1 us H1 O1 fp1 g1 S1 E1 B1 I1 R1 F1 h1 => ?_
  unfold kRaiseX at h1
  cases ef : fzs ws with
  | none => simp only [ef] at h1; exact h1.elim
  | some ds =>
    simp only [ef] at h1
    by_cases hq : ds.length = n ∧ n ≤ 1000 ∧ isVal (fe (xEnv ds)) = true
    case neg => rw [if_neg hq] at h1; exact h1.elim
    rw [if_pos hq] at h1
    obtain ⟨q1, q2, q3⟩ := hq
    have rd : RDs c (fun a => O1 a ∧ a ∉ g1) H1 ds us := R1.rest ef (fun a q => q.1) (fun a ha q => q.2 ha)
    have S2 := S1.less fun a ha => (R1.own a ha).2
    have E2 := E1.less S.tr F1
    refine ⟨by rw [rd.len, q1]; exact q2, fun a hna => ?_⟩
    have hv : ∃ w ρ', fe (xEnv ds) = some (.val w ρ') := by
      revert q3
      cases fe (xEnv ds) with
      | none => exact fun q => (by cases q)
      | some o =>
        cases o with
        | val w ρ' => exact fun _ => ⟨w, ρ', rfl⟩
        | exc x ρ' => exact fun q => (by cases q)
    have kp0 : ∀ b, H1 b ≠ none → upd H1 a (exo a (c.cl nm) none) b = H1 b := fun b hb => upd_ne fun z => hb (z ▸ hna)
    have st0 : Stb (fun a => O1 a ∧ a ∉ g1) H1 (fun a => O1 a ∧ a ∉ g1) (upd H1 a (exo a (c.cl nm) none)) := .of (fun b _ h => kp0 b h.ne) fun b h => .inl h
    refine ⟨by rw [List.append_nil, List.length_cons, rd.len, q1], a, us, ds, (fun a => O1 a ∧ a ∉ g1), by rw [List.append_nil], upd_same, rd.stb st0, fun b hb => by rw [kp0 b (S2.tr b hb).ne]; exact S2.tr b hb, fun P hP => ?_, hv, fun H2 d hd ne e1 e2 e3 e4 e5 => ?_⟩
    · obtain ⟨ps, e, k⟩ := S2.tb P hP
      exact ⟨ps, by rw [kp0 P (by rw [e]; simp)]; exact e, k⟩
    · have hd1 : H1 d = none := by rw [upd_ne ne] at hd; exact hd
      rw [List.append_nil] at e2
      refine ⟨rfl, d, _, e1, e2, hd1, ?_⟩
      have kp : ∀ b, nT (H1 b) → upd (del H2 a) d (.xd (flV (fun i => ((V.ref a :: us)[i]?).getD .non) flds).reverse) b = H1 b := fun b hb => by
        have nd : b ≠ d := fun z => hb.ne (z ▸ hd1)
        have na : b ≠ a := fun z => hb.ne (z ▸ hna)
        have hb' : upd H1 a (exo a (c.cl nm) none) b = H1 b := kp0 b hb.ne
        rw [upd_ne nd, del_ne na, e3 b (by rw [hb']; exact hb) na, hb']
      have th : ∀ b, H1 b ≠ none → upd (del H2 a) d (.xd (flV (fun i => ((V.ref a :: us)[i]?).getD .non) flds).reverse) b ≠ none := fun b hb => by
        have nd : b ≠ d := fun z => hb (z ▸ hd1)
        have na : b ≠ a := fun z => hb (z ▸ hna)
        rw [upd_ne nd, del_ne na]
        exact e4 b (by rw [kp0 b hb]; exact hb)
      have st : Stb (fun a => O1 a ∧ a ∉ g1) H1 (fun a => O1 a ∧ a ∉ g1) (upd (del H2 a) d (.xd (flV (fun i => ((V.ref a :: us)[i]?).getD .non) flds).reverse)) := .of (fun b _ h => kp b h) fun b h => .inl h
      have nd : ¬ (O1 d ∧ d ∉ g1) := fun z => (S2.tr d z).ne hd1
      have S3 : SR c (fun a => O1 a ∧ a ∉ g1) fp1 (upd (del H2 a) d (.xd (flV (fun i => ((V.ref a :: us)[i]?).getD .non) flds).reverse)) ρ1 σ := ⟨S2.rs.stb st fun b hb => kp b (S2.tr b (S2.ow b hb)), S2.nd, S2.ow, fun b hb => by rw [kp b (S2.tr b hb)]; exact S2.tr b hb, fun P hP => by
        obtain ⟨ps, e, k⟩ := e5 P hP
        refine ⟨ps, ?_, k⟩
        rw [upd_ne (fun z => by rw [z, e2] at e; cases e), del_ne (fun z => by rw [z, e1] at e; cases e)]
        exact e, fun p hp => (S2.px p hp).stb st⟩
      refine h1 _ _ σ _ _ fp1 S3 ⟨fun b hb hn => (kp b (by rw [E2.kp b hb hn]; exact hb)).trans (E2.kp b hb hn), fun b hb => th b (E2.th b hb), E2.ok, E2.on, E2.fn⟩ .refl ⟨rfl, ?_⟩
      have rf := (RDf.fl (a := a) (rd.stb st) (l := flds) fun p hp => by have := fl2 p hp; omega).rev
      have ne0 : (flD ds flds).reverse ≠ [] := by
        intro z
        apply fl1
        have z2 := congrArg List.length z
        simp [flD] at z2
        exact z2
      show (match (xExn nm flds ds).fs with | [] => _ | fs => _)
      unfold xExn
      generalize (flD ds flds).reverse = L at rf ne0
      cases L with
      | nil => exact absurd rfl ne0
      | cons q r => exact ⟨d, _, rfl, ⟨upd_same, nd⟩, rf⟩
end
end Vl

namespace Vl
open PySem PySem.Spec PyProof.Rows L2 He
/-! ### isinstance(e, C), e caught, with fields or without -/
def rIsX (K : PySem.W.Frag) (D a d : Addr) : List V → Hp → VK → Prop := fun xs H Q => ∃ (c : V) (cv : Value) (b : Bool), xs = [.ref a, c] ∧ (∀ u, RelV c u → u = cv) ∧ PySem.W.kitOne K (.ref D) cv = some b ∧ (∃ fs, H d = some (.xd fs)) ∧ Q (.bl b) H
theorem call_isX {X : Cx} {a D d : Addr} {oe : Obj} {pn : List (Addr × Obj)} (C : ExcC X.K D) (hz : Zc (.ref D) (some d) oe) (hf : ∃ vs, oe.data = .fields vs) : CallR (X.suite a ((a, oe) :: pn)) (.builtin "isinstance") (rIsX X.K D a d) := by
  intro pins s σ H xs us Q I r h
  obtain ⟨c, cv, b, rfl, hcv, e, ⟨fs, hxd⟩, q⟩ := h
  cases r with
  | cons rx rr =>
    cases rr with
    | cons rt rr =>
      cases rr
      cases rx
      have ec := hcv _ rt
      subst ec
      obtain ⟨hget, _⟩ := I.pin (a, oe) (List.mem_append.mpr (.inl List.mem_cons_self))
      obtain ⟨vs, hv⟩ := hf
      have hx : ObjOk _ _ H s.heap d (.xd fs) := I.hok d _ hxd
      obtain ⟨mA, ⟨od, es, ep, hod, hcd⟩, rl⟩ := hx
      have J : PySem.W.InstAt s.heap a oe D (some od) := by
        obtain ⟨oc, odd, oda, osl⟩ := oe
        obtain ⟨h1, h2⟩ := hz
        dsimp only at h1 h2 hv
        subst h1 h2 hv
        exact ⟨hget, rfl, rfl, hod⟩
      obtain ⟨cd, hcd2, _⟩ := PySem.W.any_some C.hd
      exact PySem.W.kia_one (PySem.W.kitx_exc (by rw [hcd2]; rfl) C.hg C.hk C.hs C.ha C.hn C.ht C.hm) I.kIn J e (fun z => nomatch z) fun tk => ⟨.bl b, H, I.kept (t' := tk) fun _ _ z => z, rfl, q⟩
def vIsX (g : Str → Option Bool) (y : Exn) : FE := fun ρ => (g y.n).map fun b => .val (.fr (.bl b)) ρ
section
variable {c : Vc} {X : Cx} {W : WX} {b : Bool} {O : Addr → Prop} {fp : List Addr} {H : Hp} {ρ : Env} {σ : L2.St} {i : Nat} {pos p p1 p2 : Pos}
variable {a : Addr} {oe : Obj} {d : Option Addr} {q : Option (Addr × List (Str × V) × List (Str × D))} {pn : List (Addr × Obj)} {y : Exn} {nm cn : Str}
theorem ve_isX {ce : Expr} {g : Str → Option Bool} {cv : Value} {u : V} (hK : X.K = c.K) (hz : Zc (.ref (c.cl y.n)) d oe) (hf : ∃ vs, oe.data = .fields vs) (h1 : ∀ l, q = some l → d = some l.1 ∧ l.2.2 = y.fs ∧ y.fs ≠ []) (h2 : q = none → y.fs = [] ∧ d = none)
    (hN : X.N[i]? = some nm) (hv : Vis X.env.scope nm) (hpe : PE (X.suite a ((a, oe) :: pn)) ce (tC u)) (hu : ∀ w, RelV u w → w = cv)
    (hg : ∀ n b, g n = some b → ExcC c.K (c.cl n) ∧ PySem.W.kitOne c.K (.ref (c.cl n)) cv = some b) (gl : Gl X "isinstance") (gm : X.mg "isinstance" = none) (gb : bootBuiltins "isinstance" = some (.builtin "isinstance"))
    (hd : (nm == ("__debug__" : Str)) = false := by decide) (hcd : (nm == ("__classdict__" : Str)) = false := by decide)
    (he : starEach [.Name nm p1, ce] X.env = (false, eval (.Name nm p1) X.env) :: starEach [ce] X.env := by rfl) (he2 : starEach [ce] X.env = (false, eval ce X.env) :: starEach [] X.env := by rfl) (hpl : (backTo pos (starEach [ce] X.env)).any (·.1) = false := by rfl) :
    VE ⟨c.toVb, ⟨i, a, q⟩ :: c.xs⟩ (X.suite a ((a, oe) :: pn)) W b (.Call (.Name "isinstance" p) [.Name nm p1, ce] [] pos) (vIsX g y) := by
  cases eg : g y.n with
  | none =>
    refine ⟨fun _ _ _ => False, ⟨fun _ _ _ _ _ _ h => h.elim⟩, fun O fp H ρ σ Q S h => ?_⟩
    unfold vIsX at h
    rw [eg] at h
    exact h
  | some bb =>
    obtain ⟨C1, C2⟩ := hg _ _ eg
    cases q with
    | none =>
      have dn : d = none := (h2 rfl).2
      subst dn
      refine ⟨_, pe_callB (X := X.suite a ((a, oe) :: pn)) (call_isE (D := c.cl y.n) (by rw [hK]; exact C1) hz hf) gl gm gb (pa_cons (pe_var hN hv hd hcd) (pa_cons hpe pa_nil he2) he) (by decide) (by decide) he hpl, fun O fp H ρ σ Q S h => ?_⟩
      have px := (S.px _ List.mem_cons_self).1
      refine ⟨.ref a, px, u, cv, bb, rfl, hu, by rw [hK]; exact C2, ?_⟩
      unfold vIsX at h
      rw [eg] at h
      exact h (.bl bb) H O fp [] S .refl (fun _ => .refl) ⟨rfl, rfl⟩ fun _ q => (by cases q)
    | some l =>
      obtain ⟨e1, e2, e3⟩ := h1 l rfl
      subst e1
      refine ⟨_, pe_callB (X := X.suite a ((a, oe) :: pn)) (call_isX (D := c.cl y.n) (by rw [hK]; exact C1) hz hf) gl gm gb (pa_cons (pe_var hN hv hd hcd) (pa_cons hpe pa_nil he2) he) (by decide) (by decide) he hpl, fun O fp H ρ σ Q S h => ?_⟩
      obtain ⟨px, py⟩ := S.px _ List.mem_cons_self
      refine ⟨.ref a, px, u, cv, bb, rfl, hu, by rw [hK]; exact C2, ⟨_, (py l rfl).1.1⟩, ?_⟩
      unfold vIsX at h
      rw [eg] at h
      exact h (.bl bb) H O fp [] S .refl (fun _ => .refl) ⟨rfl, rfl⟩ fun _ q => (by cases q)
end
end Vl

namespace Vl
open PySem PySem.Spec PyProof.Rows L2 He
/-! ### what the head tells of own exceptions with an __init__ -/
structure XDef where
  nm : Str
  name : Str
  qual : Str
  params : Arguments
  body : List Stmt
  scope : Scope
abbrev FnC : Type := Option (Str × Str × Arguments × FuncBody × Scope × Addr × Addr)
def fnC (K : PySem.W.Frag) (p : Str × Option Str) : FnC := match K.lookup (fAd K p) with
  | some ⟨_, _, .func fd, _⟩ => some (fd.name, fd.qualname, fd.params, fd.body, fd.scope, fd.globals, fd.builtins)
  | _ => none
def XDef.at_ (d : XDef) : Str × Option Str := (d.nm, some "__init__")
def XDef.val (d : XDef) : FnC := some (d.name, d.qual, d.params, .stmts d.body, d.scope, mainGlobals, builtinsNs)
def oexB (K : PySem.W.Frag) (C : Addr) : Bool := (match K.lookup C with
    | some ⟨.type t, _, .cls cd, sl⟩ => decide (t = "type") && (match cd.mro, sl.toList with
      | .ref C' :: bm, [_, _, _, _, some (.builtin n), _] => decide (C' = C) && (decide (n = "ValueError.__new__") && ((!cd.hasDel) && (cd.hasDict && PySem.HandSPX.refsVE bm)))
      | _, _ => false)
    | _ => false)
  && (eqO (PySem.W.findIn K (.ref C) "__setattr__") (some (some (.builtin "object.__setattr__"))) && (decide (PySem.W.subIn K (.ref C) (.type "BaseException") = some true) && (decide (PySem.W.typeIn K (.ref C) = some (.type "type")) && PySem.W.keepIn K (.ref C))))
theorem oexB_ok {K : PySem.W.Frag} {C : Addr} (h : oexB K C = true) : OexC K C := by
  obtain ⟨h1, h⟩ := ba h
  obtain ⟨h2, h⟩ := ba h
  obtain ⟨h3, h⟩ := ba h
  obtain ⟨h4, h5⟩ := ba h
  refine ⟨?_, eqO_ok h2, of_decide_eq_true h3, of_decide_eq_true h4, h5⟩
  split at h1
  · rename_i t dd cd sl ho
    obtain ⟨h0, h1⟩ := ba h1
    have h0 := of_decide_eq_true h0
    split at h1
    · rename_i C' bm k0 k1 k2 k3 n k5 hm hs
      obtain ⟨w1, h1⟩ := ba h1
      obtain ⟨w2, h1⟩ := ba h1
      obtain ⟨w3, h1⟩ := ba h1
      obtain ⟨w4, w5⟩ := ba h1
      have w1 := of_decide_eq_true w1
      have w2 := of_decide_eq_true w2
      obtain ⟨nm, bs, mro, ns, qn, hd, sn, sub, ab, col, del⟩ := cd
      dsimp only at hm w3 w4
      simp only [Bool.not_eq_true'] at w3
      subst h0 w1 w2 hm w3 w4
      have hsl : sl = #[k0, k1, k2, k3, some (.builtin "ValueError.__new__"), k5] := by
        obtain ⟨l⟩ := sl
        simp only at hs
        rw [hs]
      subst hsl
      exact ⟨nm, qn, ns, bs, bm, sn, sub, ab, col, dd, k0, k1, k2, k3, k5, ho, w5⟩
    · cases h1
  · cases h1
def fileB (P : Program) : Option Value → Bool
  | some (.str file _) => (P.main.file : Str) == file
  | _ => false
def celB (K : PySem.W.Frag) (C : Addr) : List (Str × Addr) → Bool
  | [(x, cc)] => decide (x = "__class__") && (match K.lookup cc with
    | some ⟨_, _, .cell (some (.ref D)), _⟩ => decide (D = C)
    | _ => false)
  | _ => false
def codB (K : PySem.W.Frag) (P : Program) (cd : Value) : Bool := match cd with
  | .ref cda => (match K.lookup cda with
    | some ⟨_, _, .fields vs, _⟩ => fileB P vs[2]?
    | _ => false)
  | _ => false
def noneB : Value → Bool
  | .none => true
  | _ => false
def supB (K : PySem.W.Frag) (P : Program) (d : XDef) : Bool := (match K.lookup (fAd K d.at_) with
    | some ⟨_, _, .func fd, _⟩ => celB K (ga K d.nm) fd.closure && (codB K P fd.code && (PySem.W.codeIn K fd.code d.qual && (noneB fd.defaults && noneB fd.kwdefaults)))
    | _ => false)
  && (oexB K (ga K d.nm) && (decide (PySem.W.mroIn K (ga K d.nm) (.ref (ga K d.nm)) = some true) && (decide (PySem.W.nsIn K cStatics "thirdparty.any" = some none) && (eqO (PySem.W.ks_superIn K (ga K d.nm) (ga K d.nm) "__init__") (some (some (.builtin "ValueError.__init__"))) &&
    (decide (PySem.W.subIn K (.ref (ga K d.nm)) (.type "ValueError") = some true) && (eqO (PySem.W.findIn K (.ref (ga K d.nm)) "__init__") (some (some (.ref (fAd K d.at_)))) && decide (PySem.W.typeIn K (.ref (fAd K d.at_)) = some (.type "function"))))))))
theorem supB_ok {K : PySem.W.Frag} {P : Program} {mg : Str → Option Value} {d : XDef} {ar : Arg} (h : supB K P d = true) (hv : fnC K d.at_ = d.val) (hh : (d.params.posonlyargs ++ d.params.args).head? = some ar) (ht : (P.main.scope.names.lookup ("super" : Str)).isSome = false) (hs : mg "super" = none) :
    (∃ cc cda oc od doc pm an ct osl, SupC K P mg (ga K d.nm) (fAd K d.at_) cc cda ar ∧ K.lookup (fAd K d.at_) = some ⟨oc, od, .func (PySem.W.ksFn d.name d.qual d.params d.body d.scope .none .none doc pm an (.ref cda) ct cc), osl⟩ ∧ PySem.W.codeIn K (.ref cda) d.qual = true) ∧
    PySem.W.findIn K (.ref (ga K d.nm)) "__init__" = some (some (.ref (fAd K d.at_))) ∧ PySem.W.typeIn K (.ref (fAd K d.at_)) = some (.type "function") := by
  obtain ⟨h1, h⟩ := ba h
  obtain ⟨h2, h⟩ := ba h
  obtain ⟨h3, h⟩ := ba h
  obtain ⟨h4, h⟩ := ba h
  obtain ⟨h5, h⟩ := ba h
  obtain ⟨h6, h⟩ := ba h
  obtain ⟨h7, h8⟩ := ba h
  refine ⟨?_, eqO_ok h7, of_decide_eq_true h8⟩
  unfold fnC at hv
  split at h1
  · rename_i oc od fd osl lk
    rw [lk] at hv
    obtain ⟨n1, n2, n3, n4, n5, n6, n7, n8, n9, n10, n11, n12, n13, n14, n15⟩ := fd
    have e2 : (some (n1, n2, n3, n4, n5, n6, n15) : FnC) = some (d.name, d.qual, d.params, .stmts d.body, d.scope, mainGlobals, builtinsNs) := hv
    simp only [Option.some.injEq, Prod.mk.injEq] at e2
    obtain ⟨q1, q2, q3, q4, q5, q6, q8⟩ := e2
    subst q1 q2 q3 q4 q5 q6 q8
    have z1 := (ba h1).1
    have z2 := (ba (ba h1).2).1
    have c3 := (ba (ba (ba h1).2).2).1
    have c4 := (ba (ba (ba (ba h1).2).2).2).1
    have c5 := (ba (ba (ba (ba h1).2).2).2).2
    dsimp only at c3 c4 c5
    have c1 : celB K (ga K d.nm) n7 = true := z1
    have c2 : codB K P n13 = true := z2
    have e8 : n8 = .none := by
      unfold noneB at c4
      split at c4
      · rfl
      · cases c4
    have e9 : n9 = .none := by
      unfold noneB at c5
      split at c5
      · rfl
      · cases c5
    subst e8 e9
    unfold celB at c1
    split at c1
    · rename_i x cc
      obtain ⟨k1, k2⟩ := ba c1
      have k1 := of_decide_eq_true k1
      subst k1
      split at k2
      · rename_i cl cld D csl lc
        have k2 := of_decide_eq_true k2
        subst k2
        unfold codB at c2
        split at c2
        · rename_i cda
          split at c2
          · rename_i ccl cdd vs ccs lcd
            unfold fileB at c2
            split at c2
            · rename_i file tf hv2
              exact ⟨cc, cda, oc, od, n10, n11, n12, n14, osl, ⟨oexB_ok h2, ⟨oc, od, _, osl, lk, hh⟩, ⟨ccl, cdd, vs, ccs, file, tf, lcd, hv2, c2⟩, ⟨cl, cld, csl, lc⟩, of_decide_eq_true h3, ht, of_decide_eq_true h4, eqO_ok h5, of_decide_eq_true h6, hs⟩, lk, c3⟩
            · cases c2
          · cases c2
        · cases c2
      · cases k2
    · cases c1
  · cases h1
end Vl

namespace Vl
open PySem PySem.Spec PyProof.Rows L2 He
/-! ### the hook with own exceptions -/
def asY (g : Addr → Option Obj) (n : Nat) : List Addr := asD g n ++ [cStatics]
abbrev KY (g : Addr → Option Obj) (n : Nat) : PySem.W.Frag := frT g (asY g n)
abbrev AlY : Type := AlX × List FnC
def obsY (n : Nat) (fa : List Fa) (fn : List DefD) (ts : List Tab) (tf : List Defn) (ex : PySem.W.Frag → Bool) (xf : List XDef) (g : Addr → Option Obj) : AlY := ((obsT fa fn ts (KY g n), ex (KY g n) && tabsB g tf (KY g n)), xf.map fun d => fnC (KY g n) d.at_)
def valY (fn : List DefD) (ts : List Tab) (xf : List XDef) (w : World) : AlY := (valX fn ts w, xf.map XDef.val)
def Yf (xf : List XDef) (K : PySem.W.Frag) : Prop := ∀ (i : Nat) (d : XDef), xf[i]? = some d → fnC K d.at_ = d.val
theorem saysY_of {n : Nat} {fa : List Fa} {fn : List DefD} {ts : List Tab} {tf : List Defn} {ex : PySem.W.Frag → Bool} {xf : List XDef} {w : World} {h : Heap} (e : obsY n fa fn ts tf ex xf h.get? = valY fn ts xf w) : SaysX fa fn ts tf ex w h (KY h.get? n) ∧ Yf xf (KY h.get? n) := by
  have e1 : obsT fa fn ts (KY h.get? n) = valT fn ts w := congrArg (fun z : AlY => z.1.1) e
  have e2 : (ex (KY h.get? n) && tabsB h.get? tf (KY h.get? n)) = true := congrArg (fun z : AlY => z.1.2) e
  have e3 : xf.map (fun d => fnC (KY h.get? n) d.at_) = xf.map XDef.val := congrArg (fun z : AlY => z.2) e
  obtain ⟨h1, h2⟩ := ba e2
  have key : ∀ p ∈ tf, PySem.W.codeHdIn (KY h.get? n) (cT (KY h.get? n) p).1 (cT (KY h.get? n) p).2 = true ∧ ∃ o, h.get? (cT (KY h.get? n) p).2 = some o ∧ emptyTab o = true := fun p hp => by
    have hq := List.all_eq_true.mp h2 p hp
    obtain ⟨h3, h4⟩ := ba hq
    cases q : h.get? (cT (KY h.get? n) p).2 with
    | none => rw [q] at h4; cases h4
    | some o => rw [q] at h4; exact ⟨h3, o, rfl, h4⟩
  refine ⟨⟨e1, h1, fun p hp => (key p hp).1, fun p hp => ?_, fun p hp => ?_⟩, fun i d hd => ?_⟩
  · obtain ⟨_, o, q, z⟩ := key p hp
    exact frT_none q z
  · obtain ⟨_, o, q, z⟩ := key p hp
    rw [q, emptyTab_eq z]
  · have q := congrArg (fun l : List FnC => l[i]?) e3
    simp only [List.getElem?_map, hd, Option.map_some] at q
    exact Option.some.inj q
def hookY (n : Nat) (fa : List Fa) (fn : List DefD) (ts : List Tab) (tf : List Defn) (ex : PySem.W.Frag → Bool) (xf : List XDef) : PySem.W.Hook where
  α := AlY
  obs := fun s => obsY n fa fn ts tf ex xf s.heap.get?
  val := fun w => valY fn ts xf w
  says := fun w h => ∃ K : PySem.W.Frag, K.In h ∧ SaysX fa fn ts tf ex w h K ∧ Yf xf K
  of := fun _ _ e => ⟨_, frT_in, saysY_of e⟩
  keeps := fun _ _ _ ⟨K, hK, c, y⟩ k => ⟨K, PySem.W.Frag.In.keeps hK k, ⟨c.t, c.more, c.hd, c.out, fun p hp => k _ _ (c.empty p hp)⟩, y⟩
theorem obsY_eq {n : Nat} {fa : List Fa} {fn : List DefD} {ts : List Tab} {tf : List Defn} {ex : PySem.W.Frag → Bool} {xf : List XDef} {g : Addr → Option Obj} {s : Shared} (h : ∀ a, g a = s.heap.get? a) : obsY n fa fn ts tf ex xf g = (hookY n fa fn ts tf ex xf).obs s := by
  have e : g = s.heap.get? := funext h
  rw [e] <;> rfl
end Vl

namespace Vl
open PySem PySem.Spec PyProof.Rows L2 He
section
variable {K : PySem.W.Frag} {tf : List Defn} {P : Program} {w : World} {mg : Str → Option Value} {base : Heap} {k n : Nat} {ar : Arg} {rest : List Stmt} {e : Expr} {p0 p1 apos pos spos : Pos} {fe : FE} {flds : List (Str × Nat)} {ps : List Str} {d : XDef}
abbrev cxD (P : Program) (w : World) (K : PySem.W.Frag) (mg : Str → Option Value) (base : Heap) (ps : List Str) (d : XDef) (cda cc : Addr) (A : Around) (outer : List PySem.Env) (s : Shared) (H : Hp) (E : XK) : Cx := cxS (L2.CX P w) P w K mg base ps d.qual d.scope (fAd K d.at_) (.ref cda) cc A outer s H E
theorem xok_of (pl : PySem.Env → Sem Bool) (h : supB K P d = true) (hv : fnC K d.at_ = d.val) (ht : (P.main.scope.names.lookup ("super" : Str)).isSome = false) (hs : mg "super" = none)
    (hno : ∀ p ∈ flds, PySem.W.findIn K (.ref (ga K d.nm)) p.1 = some none)
    (hrs : ∀ (cda cc : Addr) (A : Around) (outer : List PySem.Env) (s : Shared) (H : Hp) (E : XK), PSs (cxD P w K mg base ps d cda cc A outer s H E) rest (tF K flds))
    (hev : ∀ (cda cc : Addr) (A : Around) (outer : List PySem.Env) (s : Shared) (H : Hp) (E : XK), VE ⟨vbOf K tf, []⟩ (cxD P w K mg base ps d cda cc A outer s H E) W0 false e fe)
    (hbody : d.body = .Expr (supE p0 p1 apos pos e) spos :: rest) (hh : (d.params.posonlyargs ++ d.params.args).head? = some ar) (Sc : SupScope ps ps d.scope) (hlen : ps.length = n + 1) (har : ps[0]? = some ar.arg)
    (hks : d.scope.names.lookup ("super" : Str) = some .globalImplicit) (hkc : d.scope.names.lookup ("__class__" : Str) = some .free)
    (hfl : flds ≠ [] ∧ flds.length ≤ 900 ∧ ∀ p ∈ flds, 1 ≤ p.2 ∧ p.2 ≤ n)
    (hbind : ∀ (doc pm : Value) (an : Option Addr) (cda cc : Addr) (ct : Value) (us : List Value), us.length = ps.length → bindArgs (PySem.W.ksFn d.name d.qual d.params d.body d.scope .none .none doc pm an (.ref cda) ct cc) ⟨us, []⟩ = pure (ps.zip us))
    (hc : ∀ L f cda cc, eval (supE p0 p1 apos pos e) (PySem.W.ksEnv d.qual d.scope L f (.ref cda) cc) = (do
      let ov ← attributeBase (.Call (.Name "super" p0) [] [] p1) "__init__" (PySem.W.ksEnv d.qual d.scope L f (.ref cda) cc) (eval (.Call (.Name "super" p0) [] [] p1) (PySem.W.ksEnv d.qual d.scope L f (.ref cda) cc))
      standAt apos.atName
      let (f', first) ← holding [ov] (getMethod ov "__init__" (pl (PySem.W.ksEnv d.qual d.scope L f (.ref cda) cc)))
      callWith pos f' first (backTo pos (starEach [e] (PySem.W.ksEnv d.qual d.scope L f (.ref cda) cc))) []) := by intro _ _ _ _; rfl)
    (hst : ∀ L f cda cc, starEach [e] (PySem.W.ksEnv d.qual d.scope L f (.ref cda) cc) = (false, eval e (PySem.W.ksEnv d.qual d.scope L f (.ref cda) cc)) :: starEach [] (PySem.W.ksEnv d.qual d.scope L f (.ref cda) cc) := by intro _ _ _ _; rfl)
    (hi : ∀ L f cda cc, interactive (PySem.W.ksEnv d.qual d.scope L f (.ref cda) cc) = false := by intro _ _ _ _; rfl)
    (hsw : ∀ L f cda cc, swapsWith (supE p0 p1 apos pos e) none spos.line (PySem.W.ksEnv d.qual d.scope L f (.ref cda) cc) = pure false := by intro _ _ _ _; rfl) :
    XOk P w (vbOf K tf) mg base (k + 1) d.nm flds fe n := by
  obtain ⟨⟨cc, cda, oc, od, doc, pm, an, ct, osl, S, lk, hcd⟩, h1, h2⟩ := supB_ok (mg := mg) h hv hh ht hs
  obtain ⟨f1, f2, f3⟩ := hfl
  refine ⟨S.T, ⟨fAd K d.at_, _, ps, h1, h2, ?_, .all fun us hl => hbind doc pm an cda cc ct us hl⟩, f1, f3⟩
  rw [hbody] at lk ⊢
  exact fn_sup (c := vbOf K tf) pl S lk hcd Sc hlen har hks hkc (fun A outer s H E => hev cda cc A outer s H E) (fun A outer s H E => hrs cda cc A outer s H E) ⟨f1, f2, fun p hp => ⟨hno p hp, (f3 p hp).2⟩⟩ (fun L => hc L _ _ _) (fun L => hst L _ _ _) (fun L => hi L _ _ _) (fun L => hsw L _ _ _)
end
end Vl

namespace Vl
open PySem PySem.Spec PyProof.Rows L2 He
section
variable {K : PySem.W.Frag} {c : Vc} {X : Cx} {W : WX} {b : Bool} {bor : List Nat} {O O1 O2 O' : Addr → Prop} {fp fp1 fp2 fp' : List Addr} {H H1 H2 H' : Hp} {ρ ρ1 ρ2 : Env} {σ σ1 : L2.St} {k n i j : Nat}
variable {a e e' o : Expr} {es : List Expr} {fa fb fo : FE} {fs : FG (List Val)} {pos p p1 p2 apos : Pos} {x : Str}
/-! ### tuples and lists of the module -/
def dvD : Dv → Option D
  | .non => some .non | .bl b => some (.bl b) | .int i => some (.int i) | .str z => some (.str z) | _ => none
def dvDs : List Dv → Option (List D)
  | [] => some []
  | v :: r => (dvD v).bind fun d => (dvDs r).map (d :: ·)
theorem dvD_ok {v : Dv} {d : D} {c : Vb} (e : dvD v = some d) : RD c O H d (v.v K) := by
  cases v <;> first | (cases e; exact rfl) | cases e
theorem dvDs_ok {c : Vb} : ∀ {vs : List Dv} {ds : List D}, dvDs vs = some ds → RDs c O H ds (vs.map (Dv.v K))
  | [], _, e => by cases e; exact (rfl : ([] : List V) = [])
  | v :: r, _, e => by
    unfold dvDs at e
    obtain ⟨d, e1, e2⟩ := Option.bind_eq_some_iff.mp e
    obtain ⟨l, e3, e4⟩ := Option.map_eq_some_iff.mp e2
    subst e4
    exact ⟨_, _, rfl, dvD_ok e1, dvDs_ok e3⟩
theorem tupK_ok {x : Str} {vs : List Dv} (h : tupB K x vs = true) : KTp K (ga K x) (vs.map (Dv.v K)) := by
  unfold tupB at h
  split at h
  · rename_i c od its n osl lk
    obtain ⟨h1, h2⟩ := ba h
    obtain ⟨h3, h4⟩ := ba h2
    exact ⟨_, its, n, lk, congrArg Value.type (of_decide_eq_true h1), rfl, of_decide_eq_true h3, relAll_ok h4⟩
  · cases h
/-- a tuple of the module by its name -/
theorem ve_gt {tf : List Defn} {vs : List Dv} {ds : List D} (hK : c.toVb = vbOf K tf) (h : tupB K x vs = true) (hd : dvDs vs = some ds) (hm : X.mg x = some (.ref (ga K x))) (hg : Gl X x := by rfl) (hdb : (x == ("__debug__" : Str)) = false := by decide) : VE c X W b (.Name x pos) (vC (.ktup ds)) :=
  ve_g (v := .ref (ga K x)) hg hm rfl (fun O H => by
    rw [hK]
    exact ⟨_, _, rfl, tupK_ok h, dvDs_ok hd⟩) hdb
/-! ### all(xs), any(xs) of a list of truth values -/
def blsD : List D → Option (List Bool)
  | [] => some []
  | .bl b :: r => (blsD r).map (b :: ·)
  | _ => none
theorem blsD_ok {c : Vb} : ∀ {ds : List D} {vs : List V} {bs : List Bool}, RDs c O H ds vs → blsD ds = some bs → vs = bs.map V.bl
  | [], _, _, h, e => by cases e; exact h
  | d :: ds, _, bs, ⟨v, r, ev, h, t⟩, e => by
    cases d with
    | bl b =>
      obtain ⟨l, e1, e2⟩ := Option.map_eq_some_iff.mp (show (blsD ds).map (b :: ·) = some bs from e)
      subst e2
      rw [ev, blsD_ok t e1, show v = .bl b from h]
      rfl
    | _ => cases e
def gQl (f : List Bool → Bool) : List D → Option Val
  | [.lst ds] => (blsD ds).map fun bs => .fr (.bl (f bs))
  | [.klst ds] => (blsD ds).map fun bs => .fr (.bl (f bs))
  | _ => none
theorem s_ql {f : List Bool → Bool} : CaS c (fun vs H Q => ∃ (a : Addr) (bs : List Bool), vs = [V.ref a] ∧ SqL c.K H a (bs.map V.bl) ∧ Q (.bl (f bs)) H) (gQl f) := fun O H vs ds w Q tr p e k => by
  unfold gQl at e
  split at e
  · obtain ⟨bs, e1, e2⟩ := Option.map_eq_some_iff.mp e
    subst e2
    obtain ⟨v, rfl, a, us, rfl, ha, ra⟩ := pks1 p
    have eu := blsD_ok ra e1
    subst eu
    exact ⟨a, bs, rfl, sqL_of ha, k _ H [] (.same rfl)⟩
  · obtain ⟨bs, e1, e2⟩ := Option.map_eq_some_iff.mp e
    subst e2
    obtain ⟨v, rfl, a, us, rfl, ha, ra⟩ := pks1 p
    have eu := blsD_ok ra e1
    subst eu
    exact ⟨a, bs, rfl, sqK_of ha, k _ H [] (.same rfl)⟩
  · cases e
theorem bt_any : bootBuiltins "any" = some (.builtin "any") := by decide +kernel
theorem x_allL (hm : X.mg "all" = none) (ha : VA c X W b [e] fs) (hg : Gl X "all" := by rfl) (hc : X.calm = true := by rfl) (hK : X.K = c.K := by rfl) (he : starEach (e :: []) X.env = (false, eval e X.env) :: starEach [] X.env := by rfl) : VE c X W b (.Call (.Name "all" p) [e] [] pos) (vCall (gQl fun bs => bs.all id) fs) :=
  ve_callB (r := rAll c.K) (by rw [← hK]; exact cr_all hc) s_ql hg hm bt_all ha (by decide) (by decide) he
theorem x_anyL (hm : X.mg "any" = none) (ha : VA c X W b [e] fs) (hg : Gl X "any" := by rfl) (hc : X.calm = true := by rfl) (hK : X.K = c.K := by rfl) (he : starEach (e :: []) X.env = (false, eval e X.env) :: starEach [] X.env := by rfl) : VE c X W b (.Call (.Name "any" p) [e] [] pos) (vCall (gQl fun bs => bs.any id) fs) :=
  ve_callB (r := rAny c.K) (by rw [← hK]; exact cr_any hc) s_ql hg hm bt_any ha (by decide) (by decide) he
/-! ### d.get(k) -/
def gGet (x y : D) : Option Val := match x with
  | .dK kvs => (keyD y).map fun k => .fr ((gD kvs k).getD .non)
  | _ => none
/-- the dict first, then the key -/
def vGet (fo fb : FE) : FE := bnd fo fun w => fun ρ => match vw ρ w with
    | some (.dK kvs) => (bnd fb fun y => v2 gGet w y) ρ
    | _ => none
theorem x_get1 (hr : Room k X.A) (ho : VE c X W b o fo) (he : VE c X W b e fb) (m : M1 X o "get" apos e pos) : VE c X W b (.Call (.Attribute o "get" apos) [e] [] pos) (vGet fo fb) := by
  obtain ⟨to, po, oo⟩ := ho
  obtain ⟨te, pe, oe⟩ := he
  refine ⟨_, pe_dget1 (by have := hr.units; omega) po pe m, fun O fp H ρ σ Q S h => oo.thn S.tr S .refl (fun _ => .refl) h id fun w ρ1 u H1 O1 fp1 g1 _ S1 E1 _ I1 R1 F1 h1 => ?_⟩
  split at h1
  · rename_i kvs ev
    obtain ⟨a, vs, rfl, ha, ra⟩ := dk_get (R1.vw S1 ev)
    refine ⟨a, rfl, .inl ⟨vs, ha⟩, oe.thn S.tr S1 E1 I1 h1 id fun y ρ2 u2 H2 O2 fp2 g2 _ S2 E2 E3 I2 R2 F2 h2 => ?_⟩
    have R1' := R1.per (ρ1 := ρ2) S1 E3
    cases e1 : w2 gGet w y ρ2 with
    | none => simp only [v2, e1] at h2; exact h2.elim
    | some w' =>
      simp only [v2, e1] at h2
      obtain ⟨dx, ex, e2⟩ := Option.bind_eq_some_iff.mp e1
      obtain ⟨dy, ey, e3⟩ := Option.bind_eq_some_iff.mp e2
      have px := R1'.vw S2 ex
      have py := R2.vw S2 ey
      unfold gGet at e3
      split at e3
      · rename_i kvs2
        obtain ⟨kk, e4, e5⟩ := Option.map_eq_some_iff.mp e3
        subst e5
        obtain ⟨a', vs', ea, ha', ra'⟩ := dk_get px
        cases ea
        refine ⟨valV vs' kk, .inl ⟨vs', kk, ha', keyD_ok py e4, rfl⟩, ?_⟩
        have hq : RD c O2 H2 ((gD kvs2 kk).getD .non) ((valV vs' kk).getD .non) := by
          cases q : gD kvs2 kk with
          | none => rw [(ra'.val kk).2 q]; exact (rfl : V.non = V.non)
          | some d =>
            obtain ⟨v, z1, z2⟩ := (ra'.val kk).1 d q
            rw [z1]
            exact z2
        exact Post.pr h2 S.tr S2 E2 I2 (.same hq)
      · cases e3
  · exact h1.elim
end
end Vl

namespace Vl
open PySem PySem.Spec PyProof.Rows L2 He
section
variable {c : Vc} {X : Cx} {W : WX} {b : Bool} {bor : List Nat} {O O1 O2 O' : Addr → Prop} {fp fp1 fp2 fp' : List Addr} {H H1 H2 H' : Hp} {ρ ρ1 ρ2 : Env} {σ σ1 : L2.St}
variable {a e e' o : Expr} {fa fb fo : FE} {pos p : Pos}
/-! ### {k: v} -/
def vDisp1 (fa fb : FE) : FE := bnd fa fun k => bnd fb fun v => fun ρ => match (vw ρ k).bind keyD, fz v with
  | some kk, some d => some (.val (.nw (.dK [(kk, d)])) ρ)
  | _, _ => none
theorem x_disp1 (ha : VE c X W false a fa) (hb : VE c X W false e fb) : VE c X W false (.Dict [some a] [e] pos) (vDisp1 fa fb) := by
  obtain ⟨ta, pa, oa⟩ := ha
  obtain ⟨tb, pb, ob⟩ := hb
  refine ⟨_, pe_disp (pps_cons pa pb pps_nil) rfl rfl (by simp) (by simp), fun O fp H ρ σ Q S h q hq => ?_⟩
  have kp : ∀ b, H b ≠ none → upd H q (.dK []) b = H b := fun b hb => upd_ne fun z => hb (z ▸ hq)
  have S0 : SR c (fun a => O a ∨ a ∈ [q]) fp (upd H q (.dK [])) ρ σ := S.grow kp fun a ha => by simp at ha; rw [ha]; exact ⟨hq, .of upd_same⟩
  have nq : q ∉ fp := fun z => (S.tr q (S.ow q z)).ne hq
  have E0 : Ext fp O H fp (fun a => O a ∨ a ∈ [q]) (upd H q (.dK [])) := ⟨fun b hb _ => kp b hb.ne, fun b hb => by rw [kp b hb]; exact hb, fun b hb _ => .inl hb, fun b hb => hb.imp id fun z => by simp at z; rw [z]; exact hq, fun b hb => .inl hb⟩
  have tq : nT (upd H q (.dK []) q) := .of upd_same
  refine oa.thn S.tr S0 E0 (fun z => (by cases z)) h id fun w ρ1 u H1 O1 fp1 g1 _ S1 E1 E1' I1 R1 F1 h1 => ?_
  refine ob.thn S.tr S1 E1 I1 h1 id fun w2 ρ2 u2 H2 O2 fp2 g2 _ S2 E2 E2' I2 R2 F2 h2 => ?_
  have R1' := R1.per (ρ1 := ρ2) S1 E2'
  have q1 : H1 q = some (.dK []) := (E1'.kp q tq nq).trans upd_same
  have n1 : q ∉ fp1 := fun z => (E1'.fn q z).elim nq fun z => tq.ne z
  have q2 : H2 q = some (.dK []) := (E2'.kp q (.of q1) n1).trans q1
  have n2 : q ∉ fp2 := fun z => (E2'.fn q z).elim n1 fun z => by rw [q1] at z; cases z
  have o2 : O2 q := E2'.ok q (E1'.ok q (.inr (by simp)) nq) n1
  cases ek : (vw ρ2 w).bind keyD with
  | none => simp only [ek] at h2; exact h2.elim
  | some kk =>
    cases ed : fz w2 with
    | none => simp only [ek, ed] at h2; exact h2.elim
    | some d =>
      simp only [ek, ed] at h2
      obtain ⟨dx, ex, ekk⟩ := Option.bind_eq_some_iff.mp ek
      have ev : u = kV kk := keyD_ok (R1'.vw S2 ex) ekk
      have ng : q ∉ g2 := fun z => by
        rcases F2 q z with z | z
        · rw [q1] at z; cases z
        · exact n1 z
      have rd : RD c (fun a => O2 a ∧ a ∉ g2) H2 d u2 := R2.rest ed (fun a q => q.1) (fun a ha q => q.2 ha)
      have S3 := S2.less fun a ha => (R2.own a ha).2
      have E3 : Ext fp O H fp2 (fun a => O2 a ∧ a ∉ g2) H2 := by
        refine E2.less S.tr fun a ha => ?_
        rcases F2 a ha with z | z
        · by_cases y : H a = none
          · exact .inl y
          · exact absurd z (E1.th a y)
        · exact (E1.fn a z).symm
      refine ⟨q2, [(kk, u2)], by rw [ev]; rfl, by simp, ?_⟩
      have kp2 : ∀ b, b ≠ q → upd H2 q (.dK (mergeK [] [(kk, u2)])) b = H2 b := fun b hb => upd_ne hb
      have st : Stb (fun a => O2 a ∧ a ∉ g2) H2 (fun a => O2 a ∧ a ∉ g2) (upd H2 q (.dK (mergeK [] [(kk, u2)]))) := .of (fun a n _ => kp2 a fun z => n (z ▸ ⟨o2, ng⟩)) fun a h => .inl h
      have S4 : SR c (fun a => O2 a ∧ a ∉ g2) fp2 (upd H2 q (.dK (mergeK [] [(kk, u2)]))) ρ2 σ := ⟨S3.rs.stb st fun b hb => kp2 b fun z => n2 (z ▸ hb), S3.nd, S3.ow, fun b hb => by
          by_cases z : b = q
          · rw [z]; exact .of upd_same
          · rw [kp2 b z]; exact S3.tr b hb, fun P hP => by
        obtain ⟨ps, e, k⟩ := S3.tb P hP
        exact ⟨ps, by rw [kp2 P (fun z => by rw [z, q2] at e; cases e)]; exact e, k⟩, fun p hp => (S3.px p hp).stb st⟩
      refine h2 (.ref q) _ _ fp2 [q] S4 ⟨fun b hb hn => (kp2 b fun z => hb.ne (z ▸ hq)).trans (E3.kp b hb hn), fun b hb => by
          rw [kp2 b fun z => hb (z ▸ hq)]
          exact E3.th b hb, E3.ok, E3.on, E3.fn⟩ (fun z => (by cases z)) ⟨⟨q, _, rfl, upd_same, ?_, rfl⟩, by simp, fun b hb => by simp at hb; rw [hb]; exact ⟨⟨o2, ng⟩, n2⟩⟩ fun b hb => by simp at hb; rw [hb]; exact .inl hq
      exact ⟨u2, [], rfl, rd.stb st, (rfl : ([] : List (Key × V)) = [])⟩
end
end Vl

namespace Vl
open PySem PySem.Spec PyProof.Rows L2 GxR He
/-! ### generator expressions: any element -/
/-- the context of a generator expression's body -/
abbrev Xgx (X : Cx) (s : Shared) (H : Hp) (ce : PySem.Env) (A : Around) (fp : List Addr) (pn : List (Addr × Obj)) : Cx :=
  { X with s_0 := s, H_0 := H, env := ce, A := A, outer := X.stack, stack := ce :: X.stack, ex := fp, fn := fun _ => false, pn := pn, xe := fun _ _ => False }
structure GxOk (N : List Str) (sc scope : Scope) (own : List (Str × Nat)) : Prop where
  blk : BlkOk N sc scope own
  co : scope.isCoroutine = false
  cell : ∀ y ∈ scope.names, y.2 ≠ .cell
  dot : scope.names.lookup (".0" : Str) = some NameKind.local
def gxC (N : List Str) (sc scope : Scope) (own : List (Str × Nat)) : Bool := blkC N sc scope own && (!scope.isCoroutine && ((scope.names.all fun y => match y.2 with | .cell => false | _ => true) && decide (scope.names.lookup (".0" : Str) = some NameKind.local)))
theorem gxOk_by {N : List Str} {sc scope : Scope} {own : List (Str × Nat)} (h : gxC N sc scope own = true) : GxOk N sc scope own := by
  unfold gxC at h
  simp only [Bool.and_eq_true, decide_eq_true_eq, List.all_eq_true, Bool.not_eq_true'] at h
  obtain ⟨h1, h2, h3, h4⟩ := h
  exact ⟨blkOk_by h1, h2, fun y hy e => (by have := h3 y hy; rw [e] at this; cases this), h4⟩
section
variable {X : Cx} {pins : List (Addr × Obj)} {σ : L2.St} {H : Hp} {s : Shared}
/-- other generators' states: nothing of ours -/
theorem inv_gens (I : Inv X pins σ H s) {s' : Shared} (hh : s'.heap = s.heap) (ho : s'.os = s.os) (hg : AllBare s'.gens) : Inv X pins σ H s' :=
  ⟨I.ok, ho.trans I.os, hg, hh ▸ I.base, hh ▸ I.loc, hh ▸ I.cell, I.free, I.freeC, hh ▸ I.pin, hh ▸ I.hok, I.len⟩
/-- new things stand beside -/
theorem inv_more (I : Inv X pins σ H s) {h' : Heap} (k : ∀ b o, s.heap.get? b = some o → h'.get? b = some o) : Inv X pins σ H { s with heap := h' } :=
  I.un (h' := h') (t' := s.toks) (Un.kept k) (I.hok.kept k)
theorem gx_start {scope : Scope} {own : List (Str × Nat)} {fp : List Addr} {A' : Around} {code : Value} {a it : Addr} {o : Obj} {s' : Shared} (I : Inv X pins σ H s) (ok : GxOk X.N X.env.scope scope own) (hN : X.N.Nodup)
    (hfp : ∀ b ∈ fp, FpOk X pins H b ∧ b < s.heap.objs.size)
    (hA : A'.handled = none) (hF : A'.frames = some (genEnv scope (cloFrom X.env.cells scope.names []) s.heap.objs.size code builtinsNs X.env :: X.stack))
    (kp : ∀ b u, s.heap.get? b = some u → s'.heap.get? b = some u) (hn : s'.heap.Ns s.heap.objs.size (fun y => if y = ".0" then some (.ref it) else none)) (ho : s'.os = s.os) (hg : AllBare s'.gens)
    (ha : s.heap.objs.size < a) (hp : s'.heap.get? a = some o) (hd : ∀ v, o.data ≠ .cell v) :
    Inv (Xgx X s H (genEnv scope (cloFrom X.env.cells scope.names []) s.heap.objs.size code builtinsNs X.env) A' fp [(a, o)]) [] (wipe σ (own.map (·.2))) H s' := by
  have hfree : ∀ y ∈ scope.names, y.2 = .free → ∃ c, X.env.cells.lookup y.1 = some c := fun y hy e => by
    rcases ok.blk.free y hy e with k | k
    · exact I.ok.has _ (.inl k)
    · exact I.ok.has _ (.inr k)
  generalize hcenv : genEnv scope (cloFrom X.env.cells scope.names []) s.heap.objs.size code builtinsNs X.env = ce at hF ⊢
  have hL : ce.locals = s.heap.objs.size := by rw [← hcenv]; rfl
  have hcl : ce.cells = cloFrom X.env.cells scope.names [] := by rw [← hcenv]; rfl
  have hsc : ce.scope = scope := by rw [← hcenv]; rfl
  have mem : ∀ {y c}, ce.cells.lookup y = some c → X.env.cells.lookup y = some c ∧ c < s.heap.objs.size := fun {y c} e => by
    rw [hcl] at e
    rcases cloFrom_mem (PySem.mem_of_lookup e) with hm | ⟨h1, rfl⟩
    · cases hm
    · obtain ⟨c, hc⟩ := hfree _ h1 rfl
      rw [hc]
      obtain ⟨w, z⟩ := I.cell _ _ hc
      exact ⟨rfl, z.lt⟩
  have look : ∀ {y}, scope.names.lookup y = some .free → ∃ c, ce.cells.lookup y = some c ∧ X.env.cells.lookup y = some c := fun {y} hl => by
    obtain ⟨c', e'⟩ := mem_lookup (cloFrom_has (cells := X.env.cells) (acc := []) (PySem.mem_of_lookup hl))
    rw [← hcl] at e'
    exact ⟨c', e', (mem e').1⟩
  have okB : (Xgx X s H ce A' fp [(a, o)]).Ok := by
    refine ⟨I.ok.mod, by show ce.scope.kind = _; rw [hsc]; exact ok.blk.kind, by show ce.globals = _; rw [← hcenv]; exact I.ok.glob, by show ce.builtins = _; rw [← hcenv]; rfl, by show s.heap.objs.size ≤ ce.locals; rw [hL]; exact Nat.le_refl _,
      fun y z c e1 e2 => I.ok.inj y z c (mem e1).1 (mem e2).1, fun y hy => ?_, fun y c z e => (by cases z), fun _ => hA, hF, .inr ⟨rfl, by show ce.frame = some ce.locals; rw [← hcenv]; rfl⟩, fun b hb => ⟨?_, fun y c e z => ?_⟩, I.bs, Nat.le_trans I.ok.bsz I.sz, fun b u e hb => ?_, fun b hb z => ?_, I.stack, I.stkFree⟩
    · have key : ce.scope.names.lookup y = some .cell ∨ ce.scope.names.lookup y = some .free := hy
      rw [hsc] at key
      rcases key with q | q
      · exact absurd rfl (ok.cell _ (PySem.mem_of_lookup q))
      · obtain ⟨c, h1, _⟩ := look q
        exact ⟨c, h1⟩
    · show b ≠ ce.locals
      rw [hL]; exact Nat.ne_of_lt (hfp b hb).2
    · exact (hfp b hb).1.2.2.2.2.1 y c (mem e).1 z
    · rcases (hfp b hb).1.2.2.2.1 with z | z
      · exact I.ok.noex b u e z
      · exact absurd (Nat.lt_of_lt_of_le (Heap.lt_size e) (Nat.le_trans I.ok.bsz z)) (Nat.lt_irrefl _)
    · rcases List.mem_cons.mp (I.stkSub b z) with z | z
      · exact (hfp b hb).1.2.1 z
      · exact (hfp b hb).1.2.2.1 z
  refine ⟨okB, ho, hg, Un.kept kp, ⟨_, by show Heap.Ns _ ce.locals _; rw [hL]; exact hn, fun i y av e1 e2 e3 => ?_⟩, fun y c e => ?_, ?_, fun y c e => I.freeC y c (mem e).1, fun p hpp => ?_, I.hok.kept kp, by rw [wipe_length]; exact I.len⟩
  · obtain ⟨e2, hne⟩ := wipe_some e2
    have e3 : Vis ce.scope y := e3
    rw [hsc] at e3
    have no : ∀ k, scope.names.lookup y = some k → ¬ (k = .local ∨ k = .cell) := fun k e hh => by
      rcases ok.blk.own _ (PySem.mem_of_lookup e) hh with e' | e'
      · obtain ⟨p, hp', hpy⟩ := List.mem_map.mp e'
        have e3 := ok.blk.ix p hp'
        have q : p.1 = y := hpy
        rw [q] at e3
        exact hne (List.mem_map.mpr ⟨p, hp', nodup_ix hN e3 e1⟩)
      · exact e' (List.mem_of_getElem? e1)
    have hfr : scope.names.lookup y = some .free := by
      rcases e3 with e | e | e
      · exact absurd (.inl rfl) (no _ e)
      · exact absurd (.inr rfl) (no _ e)
      · exact e
    obtain ⟨m, hn', hl⟩ := I.loc
    have hbf := ok.blk.free _ (PySem.mem_of_lookup hfr) rfl
    have hvis : Vis X.env.scope y := hbf.elim (fun k => .inr (.inl k)) (fun k => .inr (.inr k))
    obtain ⟨w, r, q⟩ := hl i y av e1 e2 hvis
    have kf : ce.kindOf y = some .free := by show ce.scope.names.lookup y = _; rw [hsc]; exact hfr
    refine ⟨w, r, .inr ⟨.inr kf, ?_⟩⟩
    obtain ⟨c, h1, h2⟩ := look hfr
    rcases q with ⟨k, _⟩ | ⟨_, c', e', z⟩
    · have k : X.env.scope.names.lookup y = some .local := k
      rcases hbf with k' | k' <;> rw [show X.env.scope.names.lookup y = _ from k'] at k <;> cases k
    · rw [h2] at e'; cases e'
      exact ⟨c, h1, z.keeps kp⟩
  · obtain ⟨w, z⟩ := I.cell y c (mem e).1
    exact ⟨w, z.keeps kp⟩
  · show H ce.locals = none
    rw [hL]; exact I.hok.fresh (Nat.le_refl _)
  · have e : p = (a, o) := by simpa using hpp
    subst e
    refine ⟨hp, I.hok.fresh (Nat.le_of_lt ha), ?_, fun z => ?_, hd⟩
    · show a ≠ ce.locals
      rw [hL]; exact Nat.ne_of_gt ha
    · rcases List.mem_cons.mp (I.stkSub a z) with q | q
      · exact absurd (Nat.lt_trans (q ▸ I.lt) ha) (Nat.lt_irrefl _)
      · exact I.nofs (Nat.le_of_lt ha) q
end
end Vl

namespace Vl
open PySem PySem.Spec PyProof.Rows L2 GxR He
open Sem (wp)
section
variable {G : Cx} {σg : L2.St} {tn : Nat → Heap → Prop} {fp : List Addr} {W : Nat → Hp → Prop} {Fin : Hp → Prop} {Ev : V → Nat → Hp → Prop}
/-- where the generator's body stands: i items are drawn -/
def GxIn (G : Cx) (σg : L2.St) (tn : Nat → Heap → Prop) (fp : List Addr) (W : Nat → Hp → Prop) (i : Nat) (s : Shared) : Prop := ∃ H', Inv G [] σg H' s ∧ tn i s.heap ∧ (∀ b ∈ fp, H' b = none) ∧ W i H'
/-- the body's end -/
def gxR (G : Cx) (σg : L2.St) (Fin : Hp → Prop) : GenEnd := fun _ _ r s1 => r = .ok .next ∧ ∃ H', Inv G [] σg H' s1 ∧ Fin H'
/-- an item is handed out -/
def gxY (G : Cx) (σg : L2.St) (tn : Nat → Heap → Prop) (fp : List Addr) (W : Nat → Hp → Prop) (Ev : V → Nat → Hp → Prop) : Protocol := fun _ _ v s kap =>
  ∃ y i H', RelV y v ∧ Inv G [] σg H' s ∧ tn i s.heap ∧ (∀ b ∈ fp, H' b = none) ∧ Ev y i H' ∧ ∀ s'', s''.heap = s.heap → s''.os = s.os → AllBare s''.gens → W i H' → kap (.send .none) s''
theorem seg_gx {A : Around} {elt tg iter : Expr} {ifs : List Expr} {scope : Scope} {gpos : Pos} {it : Addr} {ce : PySem.Env} {J : It} {g : TG} {tt : TT} {te : TE} {σ : L2.St} {vs : List Nat} {N : Nat}
    (hA : A.over (.compLoop (.GeneratorExp elt [⟨tg, iter, ifs, 0⟩] scope gpos) 0 (.ref it) .none ce) [] = G.A) (hce : G.env = ce) (hco : ce.scope.isCoroutine = false) (hc : G.calm = true) (hG : σg = wipe σ vs)
    (T : Turn G.prog G.w G.K tg J fp it tn) (hex : G.ex = fp) (hpn : ∀ p ∈ G.pn, ∀ b ∈ fp, p.1 ≠ b)
    (pg : PG G tg g) (pt : PTs G ifs tt) (pe : PE G elt te) (hx : G.xe = fun _ _ => False)
    (turn : ∀ i H, W i H → (J.stop i H ∧ Fin H) ∨ (i < N ∧ J.go i H ∧ ∀ x H', J.yld i H x H' → g x (wipe σ vs) H' fun σ2 H2 => wipe σ2 vs = wipe σ vs ∧ tt σ2 H2 fun b H3 => if b = true then te σ2 H3 fun y H4 => Ev y (i + 1) H4 else W (i + 1) H3)) :
    ∀ (k i n : Nat) (s0 s : Shared), N - i = k → N - i ≤ n → GxIn G σg tn fp W i s →
      Seg (model G.prog G.w) A (gxR G σg Fin) (gxY G σg tn fp W Ev) n s0 (.compLoop (.GeneratorExp elt [⟨tg, iter, ifs, 0⟩] scope gpos) 0 (.ref it) .none ce)
        ((model G.prog G.w).den (.compLoop (.GeneratorExp elt [⟨tg, iter, ifs, 0⟩] scope gpos) 0 (.ref it) .none ce)) [] s := by
  have stat : ∀ {σ' : L2.St} {H' : Hp} {s' : Shared}, Inv G [] σ' H' s' → (∀ b ∈ fp, H' b = none) → ∀ b ∈ fp, FpOk G [] H' b := fun {σ' H' s'} I' hn b hb =>
    ⟨hn b hb, (I'.ok.exf b (hex ▸ hb)).1, I'.ok.exfs b (hex ▸ hb), .inl (hex ▸ hb), fun x c e => (I'.ok.exf b (hex ▸ hb)).2 x c e, fun p hp => hpn p (by simpa using hp) b hb⟩
  have noE : ∀ {P : Prop} (u : Value) (s' : Shared), G.xe u s' → P := fun u s' z => by rw [hx] at z; exact z.elim
  have body : ∀ (k : Nat), (∀ (i n : Nat) (s0 s : Shared), N - i < k → N - i ≤ n → GxIn G σg tn fp W i s → Seg (model G.prog G.w) A (gxR G σg Fin) (gxY G σg tn fp W Ev) n s0 (.compLoop (.GeneratorExp elt [⟨tg, iter, ifs, 0⟩] scope gpos) 0 (.ref it) .none ce)
        ((model G.prog G.w).den (.compLoop (.GeneratorExp elt [⟨tg, iter, ifs, 0⟩] scope gpos) 0 (.ref it) .none ce)) [] s) →
      ∀ (i n : Nat) (s0 s : Shared), N - i = k → N - i ≤ n → GxIn G σg tn fp W i s → Seg (model G.prog G.w) A (gxR G σg Fin) (gxY G σg tn fp W Ev) n s0 (.compLoop (.GeneratorExp elt [⟨tg, iter, ifs, 0⟩] scope gpos) 0 (.ref it) .none ce)
        ((model G.prog G.w).den (.compLoop (.GeneratorExp elt [⟨tg, iter, ifs, 0⟩] scope gpos) 0 (.ref it) .none ce)) [] s := by
    intro k ih i n s0 s hk hn ⟨H5, I5, st5, n5, w5⟩
    show Seg _ A _ _ n s0 _ (Sem.onRaise (compTurn (.GeneratorExp elt [⟨tg, iter, ifs, 0⟩] scope gpos) 0 (.ref it) .none ce) (leaving ce)) [] s
    rw [compTurn_gen]
    rw [Sem.onRaise_eq_wrap]
    apply seg_bind_wrap
    apply wpAny_standAt
    rcases turn i H5 w5 with ⟨stop, fin⟩ | ⟨hlt, go, step⟩
    · apply seg_bind_wrap
      rw [hA]
      refine thnF (T.done G rfl rfl rfl hc i [] s _ H5 _ I5 (stat I5 n5) st5 stop) fun r s6 ⟨hr, I6⟩ => ?_
      subst hr
      exact seg_end (Except.ok Flow.next) ⟨rfl, H5, I6, fin⟩
    · apply seg_bind_wrap
      rw [hA]
      refine thnF (T.item G rfl rfl rfl hc i [] s _ H5 _ I5 (stat I5 n5) st5 go) fun r s6 ⟨u, hr, h6⟩ => ?_
      subst hr
      apply seg_bind_wrap
      rw [hA]
      refine thnF h6 fun _ s7 ⟨x, H7, I7, r7, y7, st7, n7⟩ => ?_
      have I7' := I7.pinned (stat I7 n7) (T.obj _ _ st7)
      apply seg_bind_wrap
      rw [hA]
      have q7 := step x H7 y7
      rw [← hG] at q7
      have a7 := pg.run _ s7 _ H7 x u _ I7' r7 q7
      rw [hce] at a7
      refine wpAny_mono a7 (fun _ s8 ⟨σ8, H8, I8, hw8, q8⟩ => ?_) fun u s' z => noE u s' z
      apply seg_bind_wrap
      rw [hA]
      have a8 := pt.run _ s8 σ8 H8 _ I8 q8
      rw [hce] at a8
      refine wpAny_mono a8 (fun b s9 ⟨H9, I9, q9⟩ => ?_) fun u s' z => noE u s' z
      have fin : ∀ {s' : Shared} {H' : Hp}, Inv G ([] ++ pinsAt fp s7.heap) σ8 H' s' → Inv G [] σg H' s' ∧ tn (i + 1) s'.heap ∧ ∀ b ∈ fp, H' b = none := fun {s' H'} I' => by
        have pin' : ∀ b ∈ fp, ∀ o, s7.heap.get? b = some o → s'.heap.get? b = some o ∧ H' b = none := fun b hb o e =>
          let z := I'.pin (b, o) (List.mem_append_right _ (List.mem_append_right _ (mem_pinsAt hb e)))
          ⟨z.1, z.2.1⟩
        have hl : σg.length = σ8.length := by rw [← hw8, wipe_length]
        refine ⟨(I'.unpinned (pins := [])).weak hl fun j v e => ?_, T.keep _ _ _ st7 fun b hb o e => (pin' b hb o e).1, fun b hb => ?_⟩
        · rw [← hw8] at e
          exact (wipe_some e).1
        · obtain ⟨o, e, _⟩ := T.obj _ _ st7 b hb
          exact (pin' b hb o e).2
      cases b with
      | false =>
        simp only [Bool.false_eq_true, if_false] at q9 ⊢
        obtain ⟨J1, J2, J3⟩ := fin I9
        exact seg_again rfl (ih (i + 1) n s0 s9 (by omega) (by omega) ⟨H9, J1, J2, J3, q9⟩)
      | true =>
        simp only [if_true] at q9 ⊢
        have ey : ∀ v, yieldOut ce v = yieldValue v := fun v => by unfold yieldOut; rw [hco]; rfl
        simp only [ey]
        rw [Sem.bind_eq_wrap']
        rw [Sem.bind_eq_wrap']
        rw [Sem.wrap_wrap]
        rw [Sem.wrap_wrap]
        have a9 := pe.run _ s9 σ8 H9 _ I9 q9
        rw [hce] at a9
        apply seg_wrap
        rw [hA]
        refine wpAny_mono a9 (fun z s10 ⟨yv, H10, I10, r10, e10⟩ => ?_) fun u s' z => noE u s' z
        obtain ⟨J1, J2, J3⟩ := fin I10
        apply seg_at
        obtain ⟨m, rfl⟩ : ∃ m, n = m + 1 := ⟨n - 1, by omega⟩
        refine seg_yield rfl rfl rfl ⟨yv, i + 1, H10, r10, J1, J2, J3, e10, fun s'' h1 h2 h3 hw => ?_⟩
        exact seg_again rfl (ih (i + 1) m s'' s'' (by omega) (by omega) ⟨H10, inv_gens J1 h1 h2 h3, h1 ▸ J2, J3, hw⟩)
  intro k
  induction k using Nat.strongRecOn with
  | ind k ih => exact fun i n s0 s hk hn h => body k (fun i n s0 s hl hn h => ih (N - i) hl i n s0 s rfl hn h) i n s0 s hk hn h
end
end Vl

namespace Vl
open PySem PySem.Spec PyProof.Rows L2 GxR He GenW
open Sem (wp)
section
variable {G : Cx} {σg : L2.St} {tn : Nat → Heap → Prop} {fp : List Addr} {W : Nat → Hp → Prop} {Fin : Hp → Prop} {Ev : V → Nat → Hp → Prop}
theorem seg_gx0 {A : Around} {elt tg iter : Expr} {ifs : List Expr} {scope : Scope} {gpos : Pos} {it : Addr} {ce : PySem.Env} {J : It} {n : Nat} {s0 s : Shared}
    (T : Turn G.prog G.w G.K tg J fp it tn) (st : tn 0 s.heap)
    (h : Seg (model G.prog G.w) A (gxR G σg Fin) (gxY G σg tn fp W Ev) n s0 (.compLoop (.GeneratorExp elt [⟨tg, iter, ifs, 0⟩] scope gpos) 0 (.ref it) .none ce)
        ((model G.prog G.w).den (.compLoop (.GeneratorExp elt [⟨tg, iter, ifs, 0⟩] scope gpos) 0 (.ref it) .none ce)) [] s) :
    Seg (model G.prog G.w) A (gxR G σg Fin) (gxY G σg tn fp W Ev) n s0 (.compStart (.GeneratorExp elt [⟨tg, iter, ifs, 0⟩] scope gpos) 0 (.ref it) .none ce)
        ((model G.prog G.w).den (.compStart (.GeneratorExp elt [⟨tg, iter, ifs, 0⟩] scope gpos) 0 (.ref it) .none ce)) [] s := by
  show Seg _ A _ _ n s0 _ (Sem.onRaise (compStart (.GeneratorExp elt [⟨tg, iter, ifs, 0⟩] scope gpos) 0 (.ref it) .none ce) (leaving ce)) [] s
  unfold compStart
  rw [Sem.onRaise_eq_wrap]
  show Seg _ A _ _ n s0 _ (Sem.wrap _ _ _ _ (ask >>= _)) [] s
  apply seg_bind_wrap
  apply wpAny_askSetting
  split
  · exact seg_again rfl h
  · apply seg_bind_wrap
    apply wpAny_rule
    apply seg_bind_wrap
    apply wpAny_standAt
    apply seg_bind_wrap
    exact T.self _ 0 s _ _ st (seg_again rfl h)
/-- the generator sleeps -/
def GxSl (G : Cx) (σg : L2.St) (tn : Nat → Heap → Prop) (fp : List Addr) (W : Nat → Hp → Prop) (Fin : Hp → Prop) (Ev : V → Nat → Hp → Prop) (A : Around) (gi n i : Nat) (s : Shared) : Prop :=
  GxIn G σg tn fp W i s ∧ ∃ gs, s.gens[gi]? = some gs ∧ ∀ s'', s''.heap = s.heap → s''.os = s.os → AllBare s''.gens → gs.Goes (model G.prog G.w) A (gxR G σg Fin) (gxY G σg tn fp W Ev) n (.send .none) s''
theorem gx_next {A : Around} {a : Addr} {gi n i : Nat} {o : Obj} {nm qn : Value} {s : Shared} {Q : Option Value → Shared → Prop} {E : Value → Shared → Prop} (hh : A.handled = none) (hr : A.depth < recursionLimit) (hp : (a, o) ∈ G.pn) (hoc : o.cls = .type "generator") (hod : o.data = .fields #[.int gi 0, nm, qn]) (hos : o.slots = #[])
    (h : GxSl G σg tn fp W Fin Ev A.in1 gi n i s)
    (hN : ∀ s' H', Inv G [] σg H' s' → Fin H' → Q none s')
    (hS : ∀ v y j m H' s', RelV y v → Ev y j H' → Inv G [] σg H' s' → (W j H' → m < n ∧ GxSl G σg tn fp W Fin Ev A.in1 gi m j s') → Q (some v) s') :
    wpAny (model G.prog G.w) A (pyNext (.ref a)) Q E s := by
  obtain ⟨⟨H0, I0, st0, n0, w0⟩, gs, hgs, hgo⟩ := h
  have hgl : gi < s.gens.size := (Array.getElem?_eq_some_iff.mp hgs).1
  have isg : s.heap.IsGen a gi := ⟨o, nm, qn, (I0.pin (a, o) (List.mem_append_left _ hp)).1, hoc, hod, hos⟩
  have b0 : AllBare (s.setGen gi .running).gens := allBare_setGen I0.bare rfl
  refine wpAny_gsz (n := gi + 1) hgl (wpAny_pyNext_genexpQ (P := fun _ _ s1 => ∃ H', Inv G [] σg H' s1 ∧ Fin H') hh I0.nolimit hr isg hgs (hgo (s.setGen gi .running) rfl rfl b0) (fun v s1 gs' hb hv => ?_) (fun s1 hp1 h' hk => ?_))
  · intro hsz
    obtain ⟨y, j, H', r, J1, J2, J3, ev, kap⟩ := hv
    have hs1 : gi < s1.gens.size := by
      have q := setGen_size s1 gi gs'
      omega
    have b1 : AllBare (s1.setGen gi gs').gens := allBare_setGen J1.bare hb
    have J1' : Inv G [] σg H' (s1.setGen gi gs') := inv_gens J1 rfl rfl b1
    refine hS v y j (n - 1) H' _ r ev J1' fun w => ?_
    cases n with
    | zero => exact (kap s1 rfl rfl J1.bare w).elim
    | succ m => exact ⟨Nat.lt_succ_self m, ⟨H', J1', J2, J3, w⟩, gs', setGen_at hs1, fun s'' h1 h2 h3 => kap s'' h1 h2 h3 w⟩
  · intro _
    obtain ⟨H', J1, f⟩ := hp1
    have b1 : AllBare (s1.setGen gi .finished).gens := allBare_setGen J1.bare rfl
    exact hN _ H' (inv_more (inv_gens (s' := s1.setGen gi .finished) J1 rfl rfl b1) hk) f
end
/-! ### all, any -/
def gxEv (goOn : Bool) (Q : VK) (W : Nat → Hp → Prop) : V → Nat → Hp → Prop := fun y j H => ∃ k, y = .bl k ∧ if k = goOn then W j H else Q (.bl k) H
section
variable {G : Cx} {σg : L2.St} {tn : Nat → Heap → Prop} {fp : List Addr} {W : Nat → Hp → Prop} {QG : VK} {A : Around} {a : Addr} {gi : Nat} {o : Obj} {nm qn : Value} {R : Result → Shared → Prop}
theorem all_gx (hh : A.handled = none) (hr : A.depth < recursionLimit) (hp : (a, o) ∈ G.pn) (hoc : o.cls = .type "generator") (hod : o.data = .fields #[.int gi 0, nm, qn]) (hos : o.slots = #[])
    (hR : ∀ k H' s', Inv G [] σg H' s' → QG (.bl k) H' → R (.ok (.ret (.bool k))) s') : ∀ (n i : Nat) (s : Shared), GxSl G σg tn fp W (fun H => QG (.bl true) H) (gxEv true QG W) A.in1.in1 gi n i s →
      codeAny (model G.prog G.w) A (.builtin "all.loop" ⟨[.ref a], []⟩) R s := by
  intro n
  induction n using Nat.strongRecOn with
  | ind n ih =>
    intro i s h
    apply codeAny_builtin F.entry_all_loop
    rw [Around.under_plainId F.plain_all_loop _]
    show wpAny _ A.in1 (Bind.bind (pyNext (.ref a)) _) _ _ s
    apply wpAny_bind
    refine gx_next (A := A.in1) hh hr hp hoc hod hos h (fun s' H' I' f => ?_) fun v y j m H' s' r ev I' sl => ?_
    · exact wpAny_bind (wpAny_rule (wpAny_pure (hR true H' s' I' f)))
    · obtain ⟨k, rfl, q⟩ := ev
      cases r
      refine wpAny_bind (wpAny_holding (wpAny_truthy_bool ?_))
      apply wpAny_bind
      apply wpAny_letGo
      cases k with
      | true =>
        obtain ⟨hm, hs⟩ := sl (by simpa using q)
        exact wpAny_pure ⟨plainId_quiet F.plain_all_loop _, ih m hm j s' hs⟩
      | false => exact wpAny_bind (wpAny_rule (wpAny_pure (hR false H' s' I' (by simpa using q))))
theorem any_gx (hh : A.handled = none) (hr : A.depth < recursionLimit) (hp : (a, o) ∈ G.pn) (hoc : o.cls = .type "generator") (hod : o.data = .fields #[.int gi 0, nm, qn]) (hos : o.slots = #[])
    (hR : ∀ k H' s', Inv G [] σg H' s' → QG (.bl k) H' → R (.ok (.ret (.bool k))) s') : ∀ (n i : Nat) (s : Shared), GxSl G σg tn fp W (fun H => QG (.bl false) H) (gxEv false QG W) A.in1.in1 gi n i s →
      codeAny (model G.prog G.w) A (.builtin "any.loop" ⟨[.ref a], []⟩) R s := by
  intro n
  induction n using Nat.strongRecOn with
  | ind n ih =>
    intro i s h
    apply codeAny_builtin F.entry_any_loop
    rw [Around.under_plainId F.plain_any_loop _]
    show wpAny _ A.in1 (Bind.bind (pyNext (.ref a)) _) _ _ s
    apply wpAny_bind
    refine gx_next (A := A.in1) hh hr hp hoc hod hos h (fun s' H' I' f => ?_) fun v y j m H' s' r ev I' sl => ?_
    · exact wpAny_bind (wpAny_rule (wpAny_pure (hR false H' s' I' f)))
    · obtain ⟨k, rfl, q⟩ := ev
      cases r
      refine wpAny_bind (wpAny_holding (wpAny_truthy_bool ?_))
      apply wpAny_bind
      apply wpAny_letGo
      cases k with
      | false =>
        obtain ⟨hm, hs⟩ := sl (by simpa using q)
        exact wpAny_pure ⟨plainId_quiet F.plain_any_loop _, ih m hm j s' hs⟩
      | true => exact wpAny_bind (wpAny_rule (wpAny_pure (hR true H' s' I' (by simpa using q))))
end
end Vl

namespace Vl
open PySem PySem.Spec PyProof.Rows L2 GxR He GenW
open Sem (wp)
section
variable {X : Cx} {pins : List (Addr × Obj)} {σ : L2.St} {H : Hp} {s : Shared}
variable {c P : Addr} {elt tg iter : Expr} {ifs : List Expr} {gpos : Pos} {scope : Scope} {own : List (Str × Nat)} {wi : TI} {g : TG} {tt : TT} {te : TE} {k : Nat} {vs : List Nat}
/-- the generator a stands ready in s5 -/
def GxReady (X : Cx) (pins : List (Addr × Obj)) (σ : L2.St) (vs : List Nat) (W : Nat → Hp → Prop) (Fin : Hp → Prop) (Ev : V → Nat → Hp → Prop) (a : Addr) (s5 : Shared) : Prop :=
  ∃ (G : Cx) (tn : Nat → Heap → Prop) (fp : List Addr) (gi n : Nat) (o : Obj) (nm qn : Value), G.prog = X.prog ∧ G.w = X.w ∧ (a, o) ∈ G.pn ∧ o.cls = .type "generator" ∧ o.data = .fields #[.int gi 0, nm, qn] ∧ o.slots = #[] ∧ s5.heap.IsGen a gi ∧
    GxSl G (wipe σ vs) tn fp W Fin Ev X.A.in1.in1 gi n 0 s5 ∧ ∀ H' s', Inv G [] (wipe σ vs) H' s' → Inv X pins σ H' s'
theorem gen_gx {Q' : Value → Shared → Prop} {R : It → Hp → Prop} (hr : Room (k + 1) X.A) (TB : TabB X.base X.mg c P) (hcode : X.env.code = .ref c) (ok : GxOk X.N X.env.scope scope own) (hN : X.N.Nodup) (hc : X.calm = true) (hi : PI X tg iter wi)
    (pg : ∀ (s : Shared) (H : Hp) (C : Addr) (cl : List (Str × Addr)) (code : Value) (A : Around) (fp : List Addr) (pn : List (Addr × Obj)), Room k A → PG (Xgx X s H (genEnv scope cl C code builtinsNs X.env) A fp pn) tg g)
    (pt : ∀ (s : Shared) (H : Hp) (C : Addr) (cl : List (Str × Addr)) (code : Value) (A : Around) (fp : List Addr) (pn : List (Addr × Obj)), Room k A → PTs (Xgx X s H (genEnv scope cl C code builtinsNs X.env) A fp pn) ifs tt)
    (pe : ∀ (s : Shared) (H : Hp) (C : Addr) (cl : List (Str × Addr)) (code : Value) (A : Around) (fp : List Addr) (pn : List (Addr × Obj)), Room k A → PE (Xgx X s H (genEnv scope cl C code builtinsNs X.env) A fp pn) elt te)
    (hs : ∀ v, genFold iter X.env v = pure v) (I : Inv X pins σ H s) (h : wi σ H fun J H1 => TabG H1 P ∧ R J H1)
    (hQ' : ∀ J H1 H2 a s5, R J H1 → Tabbed P H1 H2 →
      (∀ W Fin Ev N, W 0 H2 → (∀ i H, W i H → (J.stop i H ∧ Fin H) ∨ (i < N ∧ J.go i H ∧ ∀ x H', J.yld i H x H' → g x (wipe σ (own.map (·.2))) H' fun σ2 H2 => wipe σ2 (own.map (·.2)) = wipe σ (own.map (·.2)) ∧ tt σ2 H2 fun b H3 => if b = true then te σ2 H3 fun y H4 => Ev y (i + 1) H4 else W (i + 1) H3)) →
        GxReady X pins σ (own.map (·.2)) W Fin Ev a s5) → Q' (.ref a) s5) :
    wpAny (model X.prog X.w) X.A (eval (.GeneratorExp elt [⟨tg, iter, ifs, 0⟩] scope gpos) X.env) Q' X.xe s := by
  have hfree : ∀ y ∈ scope.names, y.2 = .free → ∃ c, X.env.cells.lookup y.1 = some c := fun y hy e => by
    rcases ok.blk.free y hy e with k | k
    · exact I.ok.has _ (.inl k)
    · exact I.ok.has _ (.inr k)
  refine wpAny_GeneratorExp_make ok.co (closure_ok hfree) ok.cell ok.dot ok.blk.kind (by have := hr.dp; omega) ?_ hs
  refine wpAny_mono (hi.run pins s σ H _ I h) (fun xv s1 h1 => wpAny_mono h1 (fun itv s2 h2 => ?_) fun _ _ e => e) fun _ _ e => e
  obtain ⟨it, fp, tn, J, H2, rfl, I2, T, st2, f2, ⟨ps, hP, ht⟩, hR⟩ := h2
  have hPs : s2.heap.get? P = some { cls := .none, data := .fields ps } := I2.hok P _ hP
  have cd : PySem.W.CodeHd s2.heap c P := TB.code.keeps fun b u e => I2.bk b u e
  have lim2 := I2.nolimit
  have sz : ∀ b ∈ fp, b < s2.heap.objs.size := fun b hb => by
    obtain ⟨o, e, _⟩ := T.obj _ _ st2 b hb
    exact Heap.lt_size e
  have nP : ∀ b ∈ fp, b ≠ P := fun b hb z => by
    have := (f2 b hb).1
    rw [z, hP] at this
    cases this
  have cont : ∀ (code : Value) (h3 : Heap) (tk : Nat) (ps' : Array Value), Heap.ExtBut P s2.heap h3 → s2.heap.objs.size ≤ h3.objs.size → h3.get? P = some { cls := .none, data := .fields ps' } → (∃ more, ps' = ps ++ more) → TriplesOk ps'.toList →
      wpAny (model X.prog X.w) X.A (builtinsFor X.env.globals X.env.builtins) (fun bi s4 =>
        ∀ h', h'.Ns s4.heap.objs.size (fun y => if y = ".0" then some (.ref it) else none) → Heap.SameBut s4.heap.objs.size (s4.heap.push { cls := .type "frame", data := .dict #[] }) h' →
          Q' (.ref h'.objs.size) { s4 with
            gens := s4.gens.push (.fresh (.compStart (.GeneratorExp elt [⟨tg, iter, ifs, 0⟩] scope gpos) 0 (.ref it) .none (genEnv scope (cloFrom X.env.cells scope.names []) s4.heap.objs.size code bi X.env))),
            toks := s4.toks + 1 + 1 + 1,
            heap := h'.push { cls := .type "generator", data := .fields #[.int s4.gens.size 0, .str "<genexpr>" (s4.toks + 1), .str (X.env.qual ++ "<genexpr>") (s4.toks + 1 + 1)] } }) X.xe { s2 with heap := h3, toks := tk } := by
    intro code h3 tk ps' hx hsz hP3 hmore ht3
    obtain ⟨bm, ob, e1, e2, e3, e4, e5, e6, e7, e8⟩ := TB.bm
    have keep3 : ∀ b u, b ≠ P → s2.heap.get? b = some u → h3.get? b = some u := fun b u hb e => hx b u hb e
    refine wpAny_builtinsFor (m := X.mg) (by rw [I2.ok.glob]; exact (I2.mod.glob.keeps I2.bk).extBut hx TB.gP) e1 e2 (keep3 _ _ e4 (I2.bk _ _ e5)) e6 e7 e8 ?_
    obtain ⟨more, em⟩ := hmore
    have I4 : Inv X pins σ (upd H2 P (.tbl (ps ++ more))) { s2 with heap := h3, toks := tk } :=
      inv_tab (more := more) (h' := h3) (g' := s2.gens) (d' := s2.drawn) (t' := tk) I2 hP keep3 (by rw [← em]; exact hP3) I2.bare
    have tabbed : Tabbed P H2 (upd H2 P (.tbl (ps ++ more))) := ⟨⟨ps ++ more, upd_same, by rw [← em]; exact ht3⟩, fun b hb => upd_ne hb⟩
    have st4 : tn 0 h3 := T.keep _ _ _ st2 fun b hb o e => keep3 b o (nP b hb) e
    have f4 : ∀ b ∈ fp, FpOk X pins (upd H2 P (.tbl (ps ++ more))) b ∧ b < h3.objs.size := fun b hb =>
      ⟨⟨by rw [upd_ne (nP b hb)]; exact (f2 b hb).1, (f2 b hb).2⟩, Nat.lt_of_lt_of_le (sz b hb) hsz⟩
    generalize hH4 : upd H2 P (.tbl (ps ++ more)) = H4 at I4 tabbed f4
    generalize hs4 : ({ s2 with heap := h3, toks := tk } : Shared) = s4 at I4 ⊢
    have h4 : s4.heap = h3 := by rw [← hs4]
    have g4 : s4.gens = s2.gens := by rw [← hs4]
    rw [← h4] at st4 f4
    intro h' hn hsb
    refine hQ' J H2 H4 _ _ hR tabbed fun W Fin Ev N w0 turn => ?_
    generalize hce : genEnv scope (cloFrom X.env.cells scope.names []) s4.heap.objs.size code builtinsNs X.env = ce
    generalize hA' : Around.over X.A.in1.in1 (.compLoop (.GeneratorExp elt [⟨tg, iter, ifs, 0⟩] scope gpos) 0 (.ref it) .none ce) [] = A'
    have hsz' : h'.objs.size = s4.heap.objs.size + 1 := by rw [hsb.1, Heap.size_push]
    have kp' : ∀ b o, s4.heap.get? b = some o → h'.get? b = some o := fun b o e => hsb.extBut b o (Nat.ne_of_lt (Heap.lt_size e)) (Heap.get?_push_of_some _ e)
    have aF : A'.frames = some (ce :: X.stack) := by
      rw [← hA']
      simp [Around.over, pushEnvs, envsOf, Code.envs, Code.isFrame, Code.env?, I4.ok.frames, Code.isInlined]
    have aH : A'.handled = none := by rw [← hA']; exact hr.hd
    have aR : Room k A' := by
      refine ⟨aH, ?_, ?_⟩
      · have := hr.dp
        rw [← hA']
        simp [Around.over, frameCount, Code.weight, Code.frames, Code.isInlined, Code.isFrame, Code.isCreation, Code.isGuard, Code.isCaller]
        omega
      · have := hr.un
        rw [← hA']
        simp [Around.over, unitsOf, Code.cUnits, Code.frames, Code.isFrame, Code.isInlined]
        omega
    generalize hgo : ({ cls := .type "generator", data := .fields #[.int s4.gens.size 0, .str "<genexpr>" (s4.toks + 1), .str (X.env.qual ++ "<genexpr>") (s4.toks + 1 + 1)] } : Obj) = go
    have hfr : go.isFreed = false := by rw [← hgo]; rfl
    have st5 : tn 0 (h'.push go) := T.keep _ _ _ st4 fun b _ o e => Heap.get?_push_of_some _ (kp' b o e)
    have b5 : AllBare (s4.gens.push (.fresh (.compStart (.GeneratorExp elt [⟨tg, iter, ifs, 0⟩] scope gpos) 0 (.ref it) .none ce))) := I4.bare.push rfl
    have J5 := gx_start (A' := A') (code := code) (a := h'.objs.size) (it := it) (o := go) (s' := { s4 with gens := s4.gens.push (.fresh (.compStart (.GeneratorExp elt [⟨tg, iter, ifs, 0⟩] scope gpos) 0 (.ref it) .none ce)), toks := s4.toks + 1 + 1 + 1, heap := h'.push go })
      I4 ok hN f4 aH (by rw [hce]; exact aF) (fun b u e => Heap.get?_push_of_some _ (kp' b u e)) (hn.push _) rfl b5 (by omega) (Heap.get?_push_size _ hfr) (by rw [← hgo]; intro v e; cases e)
    have hpg := pg s4 H4 s4.heap.objs.size (cloFrom X.env.cells scope.names []) code A' fp [(h'.objs.size, go)] aR
    have hpt := pt s4 H4 s4.heap.objs.size (cloFrom X.env.cells scope.names []) code A' fp [(h'.objs.size, go)] aR
    have hpe := pe s4 H4 s4.heap.objs.size (cloFrom X.env.cells scope.names []) code A' fp [(h'.objs.size, go)] aR
    rw [hce] at J5 hpg hpt hpe
    have lt : ∀ b ∈ fp, h'.objs.size ≠ b := fun b hb z => by
      have q := (f4 b hb).2
      rw [← z] at q
      have q' : h'.objs.size < s4.heap.objs.size := q
      omega
    refine ⟨Xgx X s4 H4 ce A' fp [(h'.objs.size, go)], tn, fp, s4.gens.size, N, go, .str "<genexpr>" (s4.toks + 1), .str (X.env.qual ++ "<genexpr>") (s4.toks + 1 + 1), rfl, rfl, List.mem_cons_self, by rw [← hgo], by rw [← hgo], by rw [← hgo],
      ⟨go, _, _, Heap.get?_push_size _ hfr, by rw [← hgo], by rw [← hgo], by rw [← hgo]⟩, ⟨⟨H4, J5, st5, fun b hb => (f4 b hb).1.1, w0⟩, _, Array.getElem?_push_size .., fun s'' h1 h2 h3 => ⟨rfl, ?_⟩⟩, fun H' s' Ig => ?_⟩
    · have st6 : tn 0 s''.heap := by rw [h1]; exact st5
      refine seg_gx0 (G := Xgx X s4 H4 ce A' fp [(h'.objs.size, go)]) T st6 (seg_gx (G := Xgx X s4 H4 ce A' fp [(h'.objs.size, go)]) hA' rfl (by rw [← hce]; exact ok.co) hc rfl T rfl (fun p hp b hb => ?_) hpg hpt hpe rfl turn N 0 N s'' s'' (by omega) (by omega) ⟨H4, inv_gens J5 h1 h2 h3, st6, fun b hb => (f4 b hb).1.1, w0⟩)
      have e : p = (h'.objs.size, go) := by simpa using hp
      rw [e]
      exact lt b hb
    · exact I4.call' (ch := fp) Ig.os Ig.base Ig.hok Ig.bare fun b hb => ⟨(f4 b hb).1.2.2.2.1, (f4 b hb).1.2.1, (f4 b hb).1.2.2.2.2.1, (f4 b hb).1.2.2.2.2.2⟩
  refine ⟨lim2, ?_⟩
  cases hf : codeAmong gpos ps.toList with
  | none =>
    refine wpAny_genexprCodeX hcode (cd.code hPs ht) (cd.tab hPs) hf fun c' h' tk hx hge hlt hco' _ htab' _ => ?_
    obtain ⟨o1, us, f1, tf, fl, tg', inF, tx, tt', op, _, _, _, _, _, _, _, _, _, htr, _⟩ := hco'
    exact cont _ h' tk _ hx (Nat.le_trans hge (Nat.le_of_lt hlt)) htab'.2 ⟨_, rfl⟩ htr
  | some cv =>
    refine wpAny_genexprCode_hit hcode (cd.code hPs ht) hf ?_
    exact cont cv s2.heap s2.toks ps (Heap.ExtBut.refl _ _) (Nat.le_refl _) hPs ⟨#[], by simp⟩ ht
end
end Vl

namespace Vl
open PySem PySem.Spec PyProof.Rows L2 GxR He GenW
open Sem (wp)
def tGx (goOn : Bool) (P : Addr) (wi : TI) (g : TG) (tt : TT) (te : TE) (vs : List Nat) : TE := fun σ H Q => wi σ H fun J H1 => TabG H1 P ∧ ∀ H2, Tabbed P H1 H2 → ∃ (N : Nat) (W : Nat → Hp → Prop), W 0 H2 ∧ ∀ i H, W i H →
  (J.stop i H ∧ Q (.bl goOn) H) ∨ (i < N ∧ J.go i H ∧ ∀ x H', J.yld i H x H' → g x (wipe σ vs) H' fun σ2 H2 => wipe σ2 vs = wipe σ vs ∧ tt σ2 H2 fun b H3 => if b = true then te σ2 H3 fun y H4 => gxEv goOn Q W y (i + 1) H4 else W (i + 1) H3)
section
variable {X : Cx} {pins : List (Addr × Obj)} {σ : L2.St} {H : Hp} {s : Shared}
variable {c P : Addr} {elt tg iter : Expr} {ifs : List Expr} {gpos p pos : Pos} {scope : Scope} {own : List (Str × Nat)} {wi : TI} {g : TG} {tt : TT} {te : TE} {k : Nat} {vs : List Nat}
theorem pe_allX (hr : Room (k + 1) X.A) (hg : Gl X "all") (hm : X.mg "all" = none) (TB : TabB X.base X.mg c P) (hcode : X.env.code = .ref c) (ok : GxOk X.N X.env.scope scope own) (hN : X.N.Nodup) (hc : X.calm = true) (hi : PI X tg iter wi)
    (pg : ∀ (s : Shared) (H : Hp) (C : Addr) (cl : List (Str × Addr)) (code : Value) (A : Around) (fp : List Addr) (pn : List (Addr × Obj)), Room k A → PG (Xgx X s H (genEnv scope cl C code builtinsNs X.env) A fp pn) tg g)
    (pt : ∀ (s : Shared) (H : Hp) (C : Addr) (cl : List (Str × Addr)) (code : Value) (A : Around) (fp : List Addr) (pn : List (Addr × Obj)), Room k A → PTs (Xgx X s H (genEnv scope cl C code builtinsNs X.env) A fp pn) ifs tt)
    (pe : ∀ (s : Shared) (H : Hp) (C : Addr) (cl : List (Str × Addr)) (code : Value) (A : Around) (fp : List Addr) (pn : List (Addr × Obj)), Room k A → PE (Xgx X s H (genEnv scope cl C code builtinsNs X.env) A fp pn) elt te)
    (hs : ∀ v, genFold iter X.env v = pure v)
    (he : starEach [.GeneratorExp elt [⟨tg, iter, ifs, 0⟩] scope gpos] X.env = (false, eval (.GeneratorExp elt [⟨tg, iter, ifs, 0⟩] scope gpos) X.env) :: starEach [] X.env := by rfl) :
    PE X (.Call (.Name "all" p) [.GeneratorExp elt [⟨tg, iter, ifs, 0⟩] scope gpos] [] pos) (tGx true P wi g tt te (own.map (·.2))) := by
  refine ⟨fun pins s σ H Q I h => wpAny_Call_Name_kw (ld_blt I hg hm bt_all (PyProof.Rows.callWith_builtin1 ?_ he (by rfl)))⟩
  rw [he]
  show wpAny _ _ (spliced ((false, eval (.GeneratorExp elt [⟨tg, iter, ifs, 0⟩] scope gpos) X.env) :: backTo pos (starEach [] X.env))) _ _ s
  refine Calls.spliced_cons (gen_gx hr TB hcode ok hN hc hi pg pt pe hs I h fun J H1 H2 a s5 hR hT mk => ?_)
  obtain ⟨N, W, w0, turn⟩ := hR H2 hT
  obtain ⟨G, tn, fp, gi, n, o, nm, qn, eP, eW, hp, hoc, hod, hos, isg, sl, back⟩ := mk W _ _ N w0 turn
  refine Calls.spliced_nil (call_function_tree F.kind_all F.plain_all F.entry_all (F.args_all1 _) ?_)
  unfold Builtin.«all»
  refine wpAny_bind (m := oneArg "all" _) (wpAny_pure ?_)
  apply wpAny_bind
  refine wpAny_pyIter_gen isg ?_
  refine wpAny_pure ⟨plainId_quiet F.plain_all_loop _, ?_⟩
  rw [← eP, ← eW]
  refine all_gx (A := X.A) (QG := Q) hr.hd (by have := hr.dp; omega) hp hoc hod hos (fun k H' s' I' q => ?_) n 0 s5 sl
  exact ⟨.bl k, H', back H' s' I', rfl, q⟩
theorem pe_anyX (hr : Room (k + 1) X.A) (hg : Gl X "any") (hm : X.mg "any" = none) (TB : TabB X.base X.mg c P) (hcode : X.env.code = .ref c) (ok : GxOk X.N X.env.scope scope own) (hN : X.N.Nodup) (hc : X.calm = true) (hi : PI X tg iter wi)
    (pg : ∀ (s : Shared) (H : Hp) (C : Addr) (cl : List (Str × Addr)) (code : Value) (A : Around) (fp : List Addr) (pn : List (Addr × Obj)), Room k A → PG (Xgx X s H (genEnv scope cl C code builtinsNs X.env) A fp pn) tg g)
    (pt : ∀ (s : Shared) (H : Hp) (C : Addr) (cl : List (Str × Addr)) (code : Value) (A : Around) (fp : List Addr) (pn : List (Addr × Obj)), Room k A → PTs (Xgx X s H (genEnv scope cl C code builtinsNs X.env) A fp pn) ifs tt)
    (pe : ∀ (s : Shared) (H : Hp) (C : Addr) (cl : List (Str × Addr)) (code : Value) (A : Around) (fp : List Addr) (pn : List (Addr × Obj)), Room k A → PE (Xgx X s H (genEnv scope cl C code builtinsNs X.env) A fp pn) elt te)
    (hs : ∀ v, genFold iter X.env v = pure v)
    (he : starEach [.GeneratorExp elt [⟨tg, iter, ifs, 0⟩] scope gpos] X.env = (false, eval (.GeneratorExp elt [⟨tg, iter, ifs, 0⟩] scope gpos) X.env) :: starEach [] X.env := by rfl) :
    PE X (.Call (.Name "any" p) [.GeneratorExp elt [⟨tg, iter, ifs, 0⟩] scope gpos] [] pos) (tGx false P wi g tt te (own.map (·.2))) := by
  refine ⟨fun pins s σ H Q I h => wpAny_Call_Name_kw (ld_blt I hg hm bt_any (PyProof.Rows.callWith_builtin1 ?_ he (by rfl)))⟩
  rw [he]
  show wpAny _ _ (spliced ((false, eval (.GeneratorExp elt [⟨tg, iter, ifs, 0⟩] scope gpos) X.env) :: backTo pos (starEach [] X.env))) _ _ s
  refine Calls.spliced_cons (gen_gx hr TB hcode ok hN hc hi pg pt pe hs I h fun J H1 H2 a s5 hR hT mk => ?_)
  obtain ⟨N, W, w0, turn⟩ := hR H2 hT
  obtain ⟨G, tn, fp, gi, n, o, nm, qn, eP, eW, hp, hoc, hod, hos, isg, sl, back⟩ := mk W _ _ N w0 turn
  refine Calls.spliced_nil (call_function_tree F.kind_any F.plain_any F.entry_any (F.args_any1 _) ?_)
  unfold Builtin.«any»
  refine wpAny_bind (m := oneArg "any" _) (wpAny_pure ?_)
  apply wpAny_bind
  refine wpAny_pyIter_gen isg ?_
  refine wpAny_pure ⟨plainId_quiet F.plain_any_loop _, ?_⟩
  rw [← eP, ← eW]
  refine any_gx (A := X.A) (QG := Q) hr.hd (by have := hr.dp; omega) hp hoc hod hos (fun k H' s' I' q => ?_) n 0 s5 sl
  exact ⟨.bl k, H', back H' s' I', rfl, q⟩
end
end Vl

namespace Vl
open PySem PySem.Spec PyProof.Rows L2 GxR He
section
variable {c : Vc} {X : Cx} {W : WX} {b : Bool} {bor vs : List Nat} {O O1 O2 O' : Addr → Prop} {fp fp1 fp2 fp' : List Addr} {H H1 H2 H' : Hp} {ρ ρ1 ρ2 ρ' : Env} {σ σ1 σ' : L2.St} {k : Nat} {α β : Type}
variable {e elt tg iter : Expr} {es ifs : List Expr} {fe : FE} {ft : FG Bool} {pos p gpos : Pos} {gt : FT} {goOn : Bool}
/-- all (goOn true), any (goOn false) over the items: till the first that ends it -/
def gxD (goOn : Bool) (vs : List Nat) (gt : FT) (ft : FG Bool) (fe : FE) : List D → Env → Option (Bool × Env)
  | [], ρ => some (goOn, ρ)
  | d :: ds, ρ => match gt d ρ with
    | none => none
    | some ρ1 => match ft ρ1 with
      | some (.val true ρ2) => match fe ρ2 with
        | some (.val (.fr (.bl k)) ρ3) => if k = goOn then gxD goOn vs gt ft fe ds (wipeE ρ3 vs) else some (k, wipeE ρ3 vs)
        | _ => none
      | some (.val false ρ2) => gxD goOn vs gt ft fe ds (wipeE ρ2 vs)
      | _ => none
def kGx (goOn : Bool) (n : Nat) (vs : List Nat) (gt : FT) (ft : FG Bool) (fe : FE) (ds : List D) : FE := fun ρ => if ρ.length ≤ n then match gxD goOn vs gt ft fe ds (wipeE ρ vs) with
    | some p => some (.val (.fr (.bl p.1)) p.2)
    | none => none
  else none
def vGx (goOn : Bool) (n : Nat) (vs : List Nat) (fi : FG (List D)) (gt : FT) (ft : FG Bool) (fe : FE) : FE := bnd fi (kGx goOn n vs gt ft fe)
theorem gxD_cons {d : D} {ds : List D} {p : Bool × Env} (h : gxD goOn vs gt ft fe (d :: ds) ρ = some p) : ∃ ρ1 kb ρ2, gt d ρ = some ρ1 ∧ ft ρ1 = some (.val kb ρ2) ∧
    ((kb = true ∧ ∃ k ρ3, fe ρ2 = some (.val (.fr (.bl k)) ρ3) ∧ ((k = goOn ∧ gxD goOn vs gt ft fe ds (wipeE ρ3 vs) = some p) ∨ (k ≠ goOn ∧ p = (k, wipeE ρ3 vs)))) ∨ (kb = false ∧ gxD goOn vs gt ft fe ds (wipeE ρ2 vs) = some p)) := by
  unfold gxD at h
  cases e1 : gt d ρ with
  | none => rw [e1] at h; cases h
  | some ρ1 =>
    rw [e1] at h
    simp only at h
    cases e2 : ft ρ1 with
    | none => rw [e2] at h; cases h
    | some r =>
      rw [e2] at h
      cases r with
      | exc x ρ' => cases h
      | val kb ρ2 =>
        refine ⟨ρ1, kb, ρ2, rfl, e2, ?_⟩
        cases kb with
        | false => exact .inr ⟨rfl, h⟩
        | true =>
          simp only at h
          cases e3 : fe ρ2 with
          | none => rw [e3] at h; cases h
          | some r3 =>
            rw [e3] at h
            cases r3 with
            | exc x ρ' => cases h
            | val w ρ3 =>
              cases w with
              | fr d' =>
                cases d' with
                | bl k =>
                  refine .inl ⟨rfl, k, ρ3, rfl, ?_⟩
                  simp only at h
                  by_cases q : k = goOn
                  · rw [if_pos q] at h; exact .inl ⟨q, h⟩
                  · rw [if_neg q] at h; cases h; exact .inr ⟨q, rfl⟩
                | _ => cases h
              | _ => cases h
def gxInv (c : Vc) (goOn : Bool) (vs : List Nat) (gt : FT) (ft : FG Bool) (fe : FE) (σ : L2.St) (fp1 : List Addr) (O1 : Addr → Prop) (H1 : Hp) (ds : List D) (p : Bool × Env) (i : Nat) (H' : Hp) : Prop :=
  i ≤ ds.length ∧ ∃ O' fp' ρ0, SR c O' fp' H' (wipeE ρ0 vs) (wipe σ vs) ∧ Ext fp1 O1 H1 fp' O' H' ∧ gxD goOn vs gt ft fe (ds.drop i) (wipeE ρ0 vs) = some p
theorem ok_gx {wi : TI} {fi : FG (List D)} {n : Nat} {P : Addr} (hP : c.tb P) (hx : ∀ v ∈ vs, v ∉ c.xs.map (·.i)) (hgl : GLen gt) (hi : OkI c W fi wi) :
    Ok (RV c) c W false (vGx goOn n vs fi gt ft fe) (tGx goOn P wi (cnG c (others n vs) gt) (cnT c W0 false ft) (cnE c W0 false fe) vs) := fun O fp H ρ σ Q S h => by
  refine hi O fp H ρ σ _ S ?_
  unfold vGx bnd at h
  revert h
  cases fi ρ with
  | none => exact fun h => h.elim
  | some r =>
    cases r with
    | exc x ρ' => exact fun h => h
    | val ds ρ1 =>
      intro h J H1 O1 fp1 S1 E1 Y
      unfold kGx at h
      by_cases hn : ρ1.length ≤ n
      case neg => simp only [if_neg hn] at h; exact h.elim
      simp only [if_pos hn] at h
      cases ec : gxD goOn vs gt ft fe ds (wipeE ρ1 vs) with
      | none => simp only [ec] at h; exact h.elim
      | some p =>
        simp only [ec] at h
        have hl : σ.length ≤ n := by rw [S1.rs.len]; exact hn
        refine ⟨S1.tb P hP, fun H2 T2 => ⟨ds.length, gxInv c goOn vs gt ft fe σ fp1 O1 H1 ds p, ⟨Nat.zero_le _, ?_⟩, ?_⟩⟩
        · obtain ⟨S2, E2, _⟩ := tab_sr S1 hP T2
          obtain ⟨fp3, S3, k3⟩ := S2.wip (vs := vs) hx
          exact ⟨O1, fp3, ρ1, S3, ⟨E2.kp, E2.th, E2.ok, E2.on, fun a ha => .inl (k3 a ha)⟩, ec⟩
        · have done : ∀ {O' : Addr → Prop} {fp' : List Addr} {H' : Hp} {ρ0 : Env} {kk : Bool}, SR c O' fp' H' (wipeE ρ0 vs) (wipe σ vs) → Ext fp1 O1 H1 fp' O' H' → p = (kk, wipeE ρ0 vs) → Q (.bl kk) H' := fun {O' fp' H' ρ0 kk} S' E' ep => by
            subst ep
            exact h (.bl kk) H' O' fp' [] (S'.back hx wipe_wipe) (E1.trans E' S.tr) (fun q => (by cases q)) ⟨rfl, rfl⟩ fun a ha => (by cases ha)
          rintro i H' ⟨hi, O', fp', ρ0, S', E', ek⟩
          by_cases hlt : i < ds.length
          · have ed := List.getElem?_eq_getElem hlt
            obtain ⟨go, yl⟩ := Y.go O' fp' H' i _ E' S'.ow S'.tr ed
            refine .inr ⟨hlt, go, fun x H3 y => ?_⟩
            obtain ⟨kp, rd⟩ := yl x H3 y
            have S3 : SR c O' fp' H3 (wipeE ρ0 vs) (wipe σ vs) := ⟨S'.rs.stb (.of (fun a _ h => kp a h.ne) fun a h => .inl h) fun a ha => kp a (S'.tr a (S'.ow a ha)).ne, S'.nd, S'.ow, fun b h => by rw [kp b (S'.tr b h).ne]; exact S'.tr b h, fun P hP => by
              obtain ⟨ps, e, k⟩ := S'.tb P hP
              exact ⟨ps, by rw [kp P (by rw [e]; simp)]; exact e, k⟩, fun p hp => (S'.px p hp).stb (.of (fun a _ h => kp a h.ne) fun a h => .inl h)⟩
            have E3 : Ext fp' O' H' fp' O' H3 := ⟨fun b h _ => kp b h.ne, fun b h => by rw [kp b h]; exact h, fun _ h _ => h, fun _ h => .inl h, fun _ h => .inl h⟩
            rw [List.drop_eq_getElem_cons hlt] at ek
            obtain ⟨ρ1', kb, ρ2, e1, e2, e3⟩ := gxD_cons ek
            refine ⟨O', fp', _, _, ρ1', S3, rd, e1, fun σ4 fp4 S4 k4 B4 => ?_⟩
            have hw4 : wipe σ4 vs = wipe σ vs := by
              have l4 : σ4.length = σ.length := by
                have h1 := S4.rs.len
                have h2 := S3.rs.len
                rw [wipe_length] at h2
                have h3 := hgl _ _ _ e1
                omega
              rw [← wipe_wipe (σ := σ)]
              refine wipe_ext (by rw [wipe_length]; exact l4) fun j hj m => B4 j ?_
              rw [wipe_length] at hj
              unfold others
              rw [List.mem_filter, List.mem_range]
              exact ⟨by omega, by simpa using m⟩
            refine ⟨hw4, O', fp4, ρ1', S4, ?_⟩
            rw [e2]
            intro u H4 O4 fp5 g S5 E5 I5 R5 F5
            obtain ⟨rfl, _⟩ := R5
            have E14 : Ext fp1 O1 H1 fp4 O' H3 := E'.trans ⟨E3.kp, E3.th, E3.ok, E3.on, fun a ha => .inl (k4 a ha)⟩ S1.tr
            have E15 := E14.trans E5 S1.tr
            rcases e3 with ⟨rfl, k, ρ3, e4, e5⟩ | ⟨rfl, e5⟩
            · rw [if_pos rfl]
              refine ⟨O4, fp5, ρ2, S5, ?_⟩
              rw [e4]
              intro y H6 O6 fp6 g6 S6 E6 _ R6 F6
              obtain ⟨R6, _⟩ := R6
              refine ⟨k, R6, ?_⟩
              obtain ⟨fp9, S9, k9⟩ := S6.wip (vs := vs) hx
              rw [hw4] at S9
              have E16 := E15.trans E6 S1.tr
              have E19 : Ext fp1 O1 H1 fp9 O6 H6 := ⟨E16.kp, E16.th, E16.ok, E16.on, fun b hb => E16.fn b (k9 b hb)⟩
              rcases e5 with ⟨q, e5⟩ | ⟨q, e5⟩
              · rw [if_pos q]
                exact ⟨hlt, O6, fp9, ρ3, S9, E19, e5⟩
              · rw [if_neg q]
                exact done S9 E19 e5
            · rw [if_neg Bool.false_ne_true]
              obtain ⟨fp9, S9, k9⟩ := S5.wip (vs := vs) hx
              rw [hw4] at S9
              exact ⟨hlt, O4, fp9, ρ2, S9, ⟨E15.kp, E15.th, E15.ok, E15.on, fun b hb => E15.fn b (k9 b hb)⟩, e5⟩
          · have ei : i = ds.length := by omega
            subst ei
            rw [List.drop_length] at ek
            unfold gxD at ek
            exact .inl ⟨Y.stop O' fp' H' E' S'.tr, done S' E' (Option.some.inj ek).symm⟩
theorem x_allX {cd P : Addr} {scope : Scope} {own : List (Str × Nat)} {fi : FG (List D)} {vs : List Nat} (n : Nat) (hr : Room (k + 1) X.A) (hm : X.mg "all" = none) (TB : TabB X.base X.mg cd P) (hcode : X.env.code = .ref cd) (hP : c.tb P)
    (hN : X.N.Nodup) (hv : own.map (·.2) = vs) (hi : VI c X W tg iter fi) (ok : gxC X.N X.env.scope scope own = true) (hgl : GLen gt)
    (hg : ∀ (s : Shared) (H : Hp) (C : Addr) (cl : List (Str × Addr)) (code : Value) (A : Around) (fp : List Addr) (pn : List (Addr × Obj)), Room k A → VG c (Xgx X s H (genEnv scope cl C code builtinsNs X.env) A fp pn) (others n vs) tg gt)
    (ht : ∀ (s : Shared) (H : Hp) (C : Addr) (cl : List (Str × Addr)) (code : Value) (A : Around) (fp : List Addr) (pn : List (Addr × Obj)), Room k A → VTs c (Xgx X s H (genEnv scope cl C code builtinsNs X.env) A fp pn) W0 false ifs ft)
    (he : ∀ (s : Shared) (H : Hp) (C : Addr) (cl : List (Str × Addr)) (code : Value) (A : Around) (fp : List Addr) (pn : List (Addr × Obj)), Room k A → VE c (Xgx X s H (genEnv scope cl C code builtinsNs X.env) A fp pn) W0 false elt fe)
    (gl : Gl X "all" := by rfl) (hc : X.calm = true := by rfl) (hxs : ∀ v ∈ vs, v ∉ c.xs.map (·.i) := by exact nmAll rfl) (hs : ∀ v, genFold iter X.env v = pure v := by intro _; rfl)
    (hst : starEach [.GeneratorExp elt [⟨tg, iter, ifs, 0⟩] scope gpos] X.env = (false, eval (.GeneratorExp elt [⟨tg, iter, ifs, 0⟩] scope gpos) X.env) :: starEach [] X.env := by rfl) :
    VE c X W false (.Call (.Name "all" p) [.GeneratorExp elt [⟨tg, iter, ifs, 0⟩] scope gpos] [] pos) (vGx true n vs fi gt ft fe) := by
  subst hv
  obtain ⟨wi, pi, oi⟩ := hi
  exact ⟨_, pe_allX hr gl hm TB hcode (gxOk_by ok) hN hc pi (fun s H C cl cd A fp pn r => (hg s H C cl cd A fp pn r).cn) ht (fun s H C cl cd A fp pn r => (he s H C cl cd A fp pn r).cn) hs hst, ok_gx hP hxs hgl oi⟩
theorem x_anyX {cd P : Addr} {scope : Scope} {own : List (Str × Nat)} {fi : FG (List D)} {vs : List Nat} (n : Nat) (hr : Room (k + 1) X.A) (hm : X.mg "any" = none) (TB : TabB X.base X.mg cd P) (hcode : X.env.code = .ref cd) (hP : c.tb P)
    (hN : X.N.Nodup) (hv : own.map (·.2) = vs) (hi : VI c X W tg iter fi) (ok : gxC X.N X.env.scope scope own = true) (hgl : GLen gt)
    (hg : ∀ (s : Shared) (H : Hp) (C : Addr) (cl : List (Str × Addr)) (code : Value) (A : Around) (fp : List Addr) (pn : List (Addr × Obj)), Room k A → VG c (Xgx X s H (genEnv scope cl C code builtinsNs X.env) A fp pn) (others n vs) tg gt)
    (ht : ∀ (s : Shared) (H : Hp) (C : Addr) (cl : List (Str × Addr)) (code : Value) (A : Around) (fp : List Addr) (pn : List (Addr × Obj)), Room k A → VTs c (Xgx X s H (genEnv scope cl C code builtinsNs X.env) A fp pn) W0 false ifs ft)
    (he : ∀ (s : Shared) (H : Hp) (C : Addr) (cl : List (Str × Addr)) (code : Value) (A : Around) (fp : List Addr) (pn : List (Addr × Obj)), Room k A → VE c (Xgx X s H (genEnv scope cl C code builtinsNs X.env) A fp pn) W0 false elt fe)
    (gl : Gl X "any" := by rfl) (hc : X.calm = true := by rfl) (hxs : ∀ v ∈ vs, v ∉ c.xs.map (·.i) := by exact nmAll rfl) (hs : ∀ v, genFold iter X.env v = pure v := by intro _; rfl)
    (hst : starEach [.GeneratorExp elt [⟨tg, iter, ifs, 0⟩] scope gpos] X.env = (false, eval (.GeneratorExp elt [⟨tg, iter, ifs, 0⟩] scope gpos) X.env) :: starEach [] X.env := by rfl) :
    VE c X W false (.Call (.Name "any" p) [.GeneratorExp elt [⟨tg, iter, ifs, 0⟩] scope gpos] [] pos) (vGx false n vs fi gt ft fe) := by
  subst hv
  obtain ⟨wi, pi, oi⟩ := hi
  exact ⟨_, pe_anyX hr gl hm TB hcode (gxOk_by ok) hN hc pi (fun s H C cl cd A fp pn r => (hg s H C cl cd A fp pn r).cn) ht (fun s H C cl cd A fp pn r => (he s H C cl cd A fp pn r).cn) hs hst, ok_gx hP hxs hgl oi⟩
end
end Vl

namespace Vl
open PySem PySem.Spec PyProof.Rows L2 He
section
variable {c : Vc} {X : Cx} {W : WX} {b : Bool} {bor vs : List Nat} {O O1 O2 O' : Addr → Prop} {fp fp1 fp2 fp' fq : List Addr} {H H1 H2 H' : Hp} {ρ ρ1 ρ2 ρ' : Env} {σ σ1 σ' : L2.St} {k i n : Nat} {α β : Type}
variable {e e' o : Expr} {es : List Expr} {pos p pos' apos cpos p1 p2 : Pos} {x : Str} {nm fl : Str}
/-! ### a field of an own object -/
/-! the own parts are told by the tree and the heap -/
mutual
theorem RT.fpd : ∀ {t : T} {v : V} {f g : List Addr}, RT c O H t v f → RT c O H t v g → f = g
  | .fr _, _, _, _, h, k => h.2.trans k.2.symm
  | .hole, _, _, _, h, k => (show _ = [] from h).trans (show _ = [] from k).symm
  | .lst _, _, _, _, ⟨a, vs, e, h, r, ef⟩, ⟨a', vs', e', h', r', ef'⟩ => by rw [e] at e'; cases e'; rw [ef, ef']
  | .dK _, _, _, _, ⟨a, vs, e, h, r, ef⟩, ⟨a', vs', e', h', r', ef'⟩ => by rw [e] at e'; cases e'; rw [ef, ef']
  | .dT _, _, _, _, ⟨a, vs, e, h, r, ef⟩, ⟨a', vs', e', h', r', ef'⟩ => by rw [e] at e'; cases e'; rw [ef, ef']
  | .obj _ _, _, _, _, ⟨a, dx, vs, fq, e, h, r, ef⟩, ⟨a', dx', vs', fq', e', h', r', ef'⟩ => by
    rw [e] at e'; cases e'
    rw [h] at h'; cases h'
    rw [ef, ef', RTf.fpd r r']
  | .tl _, _, _, _, ⟨a, vs, e, h, r⟩, ⟨a', vs', e', h', r'⟩ => by
    rw [e] at e'; cases e'
    rw [h.1] at h'; cases h'.1
    exact RTs.fpd r r'
theorem RTs.fpd : ∀ {t : List T} {v : List V} {f g : List Addr}, RTs c O H t v f → RTs c O H t v g → f = g
  | [], _, _, _, h, k => h.2.trans k.2.symm
  | _ :: _, _, _, _, ⟨v, r, f1, f2, e, h, t, ef⟩, ⟨v', r', f1', f2', e', h', t', ef'⟩ => by
    rw [e] at e'; cases e'
    rw [ef, ef', RT.fpd h h', RTs.fpd t t']
theorem RTf.fpd : ∀ {t : List (Str × T)} {v : List (Str × V)} {f g : List Addr}, RTf c O H t v f → RTf c O H t v g → f = g
  | [], _, _, _, h, k => h.2.trans k.2.symm
  | (_, _) :: _, _, _, _, ⟨v, r, f1, f2, e, h, t, ef⟩, ⟨v', r', f1', f2', e', h', t', ef'⟩ => by
    rw [e] at e'; cases e'
    rw [ef, ef', RT.fpd h h', RTf.fpd t t']
end
theorem RTf.part {t : T} : ∀ {fs : List (Str × T)} {vs : List (Str × V)} {fq : List Addr}, RTf c O H fs vs fq → fs.lookup fl = some t →
    ∃ v f1 l r, vs.lookup fl = some v ∧ RT c O H t v f1 ∧ fq = l ++ f1 ++ r ∧ ∀ {O' : Addr → Prop} {H' : Hp} {t' : T} {f' : List Addr}, Stb O H O' H' → (∀ a ∈ l ++ r, H' a = H a) → RT c O' H' t' v f' → RTf c O' H' (putT fl t' fs) vs (l ++ f' ++ r)
  | [], _, _, _, h => by simp at h
  | (k, t0) :: fs, _, _, ⟨v, vr, f1, f2, e, h, z, ef⟩, q => by
    subst e ef
    simp only [List.lookup] at q
    by_cases hk : fl = k
    · subst hk
      simp only [beq_self_eq_true] at q
      cases q
      refine ⟨v, f1, [], f2, by simp [List.lookup], h, by simp, fun {O' H' t' f'} s kp R => ?_⟩
      unfold putT
      rw [if_pos rfl]
      exact ⟨v, vr, f', f2, rfl, R, z.stb s fun a ha => kp a (by simpa using ha), by simp⟩
    · have hb : (fl == k) = false := by simpa using hk
      rw [hb] at q
      obtain ⟨v', g1, l, r, h1, h2, h3, h4⟩ := RTf.part z q
      refine ⟨v', g1, f1 ++ l, r, by simp [List.lookup, hb, h1], h2, by rw [h3]; simp, fun {O' H' t' f'} s kp R => ?_⟩
      unfold putT
      rw [if_neg fun e => hk e.symm]
      exact ⟨v, vr, f1, l ++ f' ++ r, rfl, h.stb s fun a ha => kp a (by simp [ha]), h4 s (fun a ha => kp a (by rcases List.mem_append.mp ha with m | m <;> simp [m])) R, by simp⟩
/-- a field of slot i's own object is changed in place -/
theorem SR.mutF {fs : List (Str × T)} {t : T} (S : SR c O fp H ρ σ) (e : ρ[i]? = some (some (.obj nm fs))) (et : fs.lookup fl = some t) : ∃ a dx vs x f, σ[i]? = some (some (.ref a)) ∧ H a = some (.ins (c.cl nm) dx vs) ∧ vs.lookup fl = some x ∧ RT c O H t x f ∧ f.Nodup ∧ (∀ b ∈ f, O b) ∧ (∀ b ∈ f, b ∈ fp) ∧
    ∀ H' t', (∀ b, b ∉ f → H' b = H b) → (∀ b ∈ f, nT (H' b)) → RT c O H' t' x f → SR c O fp H' (ρ.set i (some (.obj nm (putT fl t' fs)))) σ ∧ Ext fp O H fp O H' := by
  obtain ⟨v, f, q1, q2, h1, _⟩ := S.rs.get e
  obtain ⟨g, R, ng, og, mk⟩ := S.mut e h1
  obtain ⟨a, dx, vs, fq, ev, ea, rf, eg⟩ := R
  subst ev
  obtain ⟨x, f1, l, r, h2, h3, h4, h5⟩ := rf.part et
  have nd1 : a ∉ fq ∧ fq.Nodup := by rw [eg] at ng; simpa using ng
  have nd2 := nd1.2
  rw [h4] at nd2
  have sub : ∀ b ∈ f1, b ∈ g := fun b hb => by rw [eg, h4]; simp [hb]
  have dj : ∀ b ∈ l ++ r, b ∉ f1 := by
    simp only [List.nodup_append, List.mem_append] at nd2 ⊢
    rintro b (hb | hb) hf
    · exact nd2.1.2.2 b hb b hf rfl
    · exact nd2.2.2 b (.inr hf) b hb rfl
  have na : a ∉ f1 := fun q => nd1.1 (by rw [h4]; simp [q])
  have nf : f1.Nodup := by
    simp only [List.nodup_append] at nd2
    exact nd2.1.2.1
  have gfp : ∀ b ∈ g, b ∈ fp := by
    obtain ⟨v', f', q3, q4, z1, z2, z3, _⟩ := S.rs.get e
    rw [h1] at z1
    cases z1
    obtain ⟨a', dx', vs', fq', ev', ea', rf', eg'⟩ := z2
    cases ev'
    rw [ea] at ea'
    cases ea'
    have hx := (S.mut2 e h1)
    obtain ⟨f2, R2, _, s2, _⟩ := hx
    obtain ⟨a2, dx2, vs2, fq2, ev2, ea2, rf2, eg2⟩ := R2
    cases ev2
    rw [ea] at ea2
    cases ea2
    have e1 : fq = fq2 := RTf.fpd rf rf2
    rw [eg, e1, ← eg2]
    exact s2
  refine ⟨a, dx, vs, x, f1, h1, ea, h2, h3, nf, fun b hb => og b (sub b hb), fun b hb => gfp b (sub b hb), fun H' t' kp tr R' => ?_⟩
  refine mk H' _ (fun b hb => kp b fun q => hb (sub b q)) (fun b hb => ?_) ⟨a, dx, vs, l ++ f1 ++ r, rfl, (kp a na).trans ea, h5 (.of (fun b n _ => kp b fun q => n (og b (sub b q))) fun _ h => .inl h) (fun b hb => kp b (dj b hb)) R', by rw [eg, h4]⟩
  by_cases z : b ∈ f1
  · exact tr b z
  · rw [kp b z]; exact S.tr b (og b hb)
end
end Vl

namespace Vl
open PySem PySem.Spec PyProof.Rows L2 He
section
variable {c : Vc} {X : Cx} {W : WX} {b : Bool} {bor vs : List Nat} {O O1 O2 O' : Addr → Prop} {fp fp1 fp2 fp' fq : List Addr} {H H1 H2 H' : Hp} {ρ ρ1 ρ2 ρ' : Env} {σ σ1 σ' : L2.St} {k i n : Nat} {α β : Type}
variable {a e e' o : Expr} {es : List Expr} {pos p pos' apos cpos p1 p2 : Pos} {x : Str} {nm fl : Str} {fa fb : FG D} {ta tb : TE}
/-- x.f, x slot i, its object own or at rest, the field at rest -/
def vFldO (i : Nat) (nm fl : Str) : FE := fun ρ => match ρ[i]? with
  | some (some (.obj n fs)) => if n = nm then match fs.lookup fl with
    | some (.fr d) => some (.val (.fr d) ρ)
    | _ => none
    else none
  | some (some (.fr (.obj n fs))) => if n = nm then match fs.lookup fl with
    | some d => some (.val (.fr d) ρ)
    | none => none
    else none
  | _ => none
/-- .. its value as it is now -/
def pFldO (i : Nat) (nm fl : Str) : FG D := fun ρ => match ρ[i]? with
  | some (some (.obj n fs)) => if n = nm then match (fs.lookup fl).bind T.pk with
    | some d => some (.val d ρ)
    | none => none
    else none
  | some (some (.fr (.obj n fs))) => if n = nm then match fs.lookup fl with
    | some d => some (.val d ρ)
    | none => none
    else none
  | _ => none
theorem RTf.look1 {t : T} {fs : List (Str × T)} {vs : List (Str × V)} {fq : List Addr} (r : RTf c O H fs vs fq) (e : fs.lookup fl = some t) : ∃ v f, vs.lookup fl = some v ∧ RT c O H t v f := by
  obtain ⟨v, f1, l, r', h1, h2, _⟩ := r.part e
  exact ⟨v, f1, h1, h2⟩
def RPk (c : Vc) : Rl D V := fun O _ H _ _ d u g => Pk c O H d u ∧ g = []
/-- an expression of which the value's contents are looked at, at once -/
def VP (c : Vc) (X : Cx) (W : WX) (e : Expr) (f : FG D) : Prop := ∃ te : TE, PE X e te ∧ Ok (RPk c) c W true f te
theorem ve_fldO {nm fl : Str} (i : Nat) (hK : X.K = c.K) (hc : Cls c.K (c.cl nm)) (hn : NoAttr c.K (c.cl nm) fl) (hN : X.N[i]? = some x := by rfl) (hv : Vis X.env.scope x := by first | exact Or.inl rfl | exact Or.inr (Or.inl rfl) | exact Or.inr (Or.inr rfl)) (hd : (x == ("__debug__" : Str)) = false := by decide)
    (hcd : (x == ("__classdict__" : Str)) = false := by decide) (hb : attributeBase (.Name x p) fl X.env (eval (.Name x p) X.env) = eval (.Name x p) X.env := by rfl) : VE c X W b (.Attribute (.Name x p) fl pos) (vFldO i nm fl) := by
  refine ⟨_, pe_fld (pv i hN hv hd hcd) hb, fun O fp H ρ σ Q S h => ?_⟩
  unfold vFldO at h
  cases e : ρ[i]? with
  | none => rw [e] at h; exact h.elim
  | some o =>
    rw [e] at h
    cases o with
    | none => exact h.elim
    | some t =>
      obtain ⟨v, f, _, _, h1, h2, _⟩ := S.rs.get e
      cases t with
      | obj n fs =>
        simp only at h
        by_cases en : n = nm
        · subst en
          rw [if_pos rfl] at h
          cases el : fs.lookup fl with
          | none => rw [el] at h; exact h.elim
          | some t' =>
            rw [el] at h
            cases t' with
            | fr d =>
              obtain ⟨a, dx, vs, fq, ev, ea, rf, _⟩ := h2
              obtain ⟨y, g, hy, R⟩ := rf.look1 el
              rw [hK]
              exact ⟨v, h1, a, _, dx, vs, y, ev, ea, hc, hn, hy, h y H O fp [] S .refl (fun _ => .refl) ⟨R.1, rfl⟩ fun _ q => (by cases q)⟩
            | _ => exact h.elim
        · rw [if_neg en] at h; exact h.elim
      | fr d =>
        cases d with
        | obj n fs =>
          simp only at h
          by_cases en : n = nm
          · subst en
            rw [if_pos rfl] at h
            cases el : fs.lookup fl with
            | none => rw [el] at h; exact h.elim
            | some d =>
              rw [el] at h
              obtain ⟨a, dx, vs, ev, ea, rf⟩ := h2.1
              obtain ⟨y, hy, R⟩ := rf.look.1 d el
              rw [hK]
              exact ⟨v, h1, a, _, dx, vs, y, ev, ea.1, hc, hn, hy, h y H O fp [] S .refl (fun _ => .refl) ⟨R, rfl⟩ fun _ q => (by cases q)⟩
          · rw [if_neg en] at h; exact h.elim
        | _ => exact h.elim
      | _ => exact h.elim
theorem vp_fld {nm fl : Str} (i : Nat) (hK : X.K = c.K) (hc : Cls c.K (c.cl nm)) (hn : NoAttr c.K (c.cl nm) fl) (hN : X.N[i]? = some x := by rfl) (hv : Vis X.env.scope x := by first | exact Or.inl rfl | exact Or.inr (Or.inl rfl) | exact Or.inr (Or.inr rfl)) (hd : (x == ("__debug__" : Str)) = false := by decide)
    (hcd : (x == ("__classdict__" : Str)) = false := by decide) (hb : attributeBase (.Name x p) fl X.env (eval (.Name x p) X.env) = eval (.Name x p) X.env := by rfl) : VP c X W (.Attribute (.Name x p) fl pos) (pFldO i nm fl) := by
  refine ⟨_, pe_fld (pv i hN hv hd hcd) hb, fun O fp H ρ σ Q S h => ?_⟩
  unfold pFldO at h
  cases e : ρ[i]? with
  | none => rw [e] at h; exact h.elim
  | some o =>
    rw [e] at h
    cases o with
    | none => exact h.elim
    | some t =>
      obtain ⟨v, f, _, _, h1, h2, _⟩ := S.rs.get e
      cases t with
      | obj n fs =>
        simp only at h
        by_cases en : n = nm
        · subst en
          rw [if_pos rfl] at h
          cases el : fs.lookup fl with
          | none => rw [el] at h; exact h.elim
          | some t' =>
            rw [el] at h
            simp only [Option.bind_some] at h
            cases ek : t'.pk with
            | none => rw [ek] at h; exact h.elim
            | some d =>
              rw [ek] at h
              obtain ⟨a, dx, vs, fq, ev, ea, rf, _⟩ := h2
              obtain ⟨y, g, hy, R⟩ := rf.look1 el
              rw [hK]
              exact ⟨v, h1, a, _, dx, vs, y, ev, ea, hc, hn, hy, h y H O fp [] S .refl (fun _ => .refl) ⟨R.pk ek, rfl⟩ fun _ q => (by cases q)⟩
        · rw [if_neg en] at h; exact h.elim
      | fr d =>
        cases d with
        | obj n fs =>
          simp only at h
          by_cases en : n = nm
          · subst en
            rw [if_pos rfl] at h
            cases el : fs.lookup fl with
            | none => rw [el] at h; exact h.elim
            | some d =>
              rw [el] at h
              obtain ⟨a, dx, vs, ev, ea, rf⟩ := h2.1
              obtain ⟨y, hy, R⟩ := rf.look.1 d el
              rw [hK]
              exact ⟨v, h1, a, _, dx, vs, y, ev, ea.1, hc, hn, hy, h y H O fp [] S .refl (fun _ => .refl) ⟨R.pk, rfl⟩ fun _ q => (by cases q)⟩
          · rw [if_neg en] at h; exact h.elim
        | _ => exact h.elim
      | _ => exact h.elim
/-- any value, looked at -/
def pkOf (fa : FE) : FG D := bnd fa fun w ρ => match vw ρ w with
  | some d => some (.val d ρ)
  | none => none
theorem vp_of {fa : FE} (h : VE c X W true e fa) : VP c X W e (pkOf fa) := by
  obtain ⟨ta, pa, oa⟩ := h
  refine ⟨ta, pa, fun O fp H ρ σ Q S h => ?_⟩
  have q := oa.thn (rl := RPk c) (b := true) (k := fun w ρ => match vw ρ w with | some d => some (.val d ρ) | none => none) (Qx := Q) S.tr S .refl (fun _ => .refl) h id fun w ρ1 u H1 O1 fp1 g1 _ S1 E1 _ I1 R1 F1 h1 => ?_
  · exact q
  · cases ev : vw ρ1 w with
    | none => rw [ev] at h1; exact h1.elim
    | some d =>
      rw [ev] at h1
      exact h1 u H1 O1 fp1 [] S1 E1 (fun q => I1 q) ⟨R1.vw S1 ev, rfl⟩ fun _ q => (by cases q)
theorem Pk.ins {d : D} {u : V} (h : Pk c O H d u) (E : Ext fp O H fp1 O1 H1) (ow : ∀ a ∈ fp, O a) (I : Ins H H1) : Pk c O1 H1 d u := by
  have s := E.stb ow
  cases d with
  | lst xs => obtain ⟨a, vs, e, ha, r⟩ := h; exact ⟨a, vs, e, (I a (.of ha)).trans ha, r.stb s⟩
  | dK kvs => obtain ⟨a, vs, e, ha, r⟩ := h; exact ⟨a, vs, e, by rw [I a (strip_ne ha rfl)]; exact ha, r.stb s⟩
  | dT kvs => obtain ⟨a, vs, e, ha, r⟩ := h; exact ⟨a, vs, e, by rw [I a (strip_ne ha rfl)]; exact ha, r.stb s⟩
  | obj n fs => obtain ⟨a, dx, vs, e, ha, r⟩ := h; exact ⟨a, dx, vs, e, (I a (.of ha)).trans ha, r.stb s⟩
  | non => exact h
  | bl _ => exact h
  | int _ => exact h
  | str _ => exact h
  | con _ => exact h
  | ty _ => exact h
  | tup xs => exact RD.stb s (d := .tup xs) h
  | ktup xs => exact RD.stb s (d := .ktup xs) h
  | klst xs => exact RD.stb s (d := .klst xs) h
  | hole => exact h
/-- THE CHAIN, of a part that changes nothing -/
theorem Ok.thnI {γ δ : Type} {rl1 : Rl α β} {rl : Rl γ δ} {f : FG α} {te : TEG β} {k : α → FG γ} {Q : δ → Hp → Prop} {Qx : β → Hp → Prop} (ok : Ok rl1 c W true f te) (S0 : ∀ b, O b → nT (H b)) (S1 : SR c O1 fp1 H1 ρ1 σ) (E1 : Ext fp O H fp1 O1 H1) (I1 : b = true → Ins H H1)
    (h : Post rl c W b O fp H σ (bnd f k ρ1) Q)
    (next : ∀ w ρ2 u H2 O2 fp2 g2, f ρ1 = some (.val w ρ2) → SR c O2 fp2 H2 ρ2 σ → Ext fp O H fp2 O2 H2 → Ext fp1 O1 H1 fp2 O2 H2 → (b = true → Ins H H2) → Ins H1 H2 → rl1 O2 fp2 H2 ρ2 σ w u g2 → Fr g2 fp1 H1 → Post rl c W b O fp H σ (k w ρ2) Q → Qx u H2) :
    te σ H1 Qx := by
  refine ok O1 fp1 H1 ρ1 σ Qx S1 ?_
  unfold bnd at h
  revert h
  cases e : f ρ1 with
  | none => exact fun h => h
  | some o =>
    cases o with
    | exc x ρ' => exact fun h cls d H' O' fp' S E R => h cls d H' O' fp' S (E1.trans E S0) R
    | val w ρ' => exact fun h u H' O' fp' g S E I R F => next w ρ' u H' O' fp' g e S (E1.trans E S0) E (fun q => (I1 q).trans (I rfl)) (I rfl) R F h
/-- what a reading of looked-at values gives -/
def gv (o : Option Val) : FE := fun ρ => match o with
  | some w => some (.val w ρ)
  | none => none
theorem Post.gv {o : Option Val} {Q : V → Hp → Prop} (h : Post (RV c) c W b O fp H σ (Vl.gv o ρ) Q) : ∃ w, o = some w ∧ Post (RV c) c W b O fp H σ (some (.val w ρ)) Q := by
  cases o with
  | none => exact h.elim
  | some w => exact ⟨w, rfl, h⟩
/-- an operator on two looked-at values -/
def pOp (g : D → D → Option Val) (fa fb : FG D) : FE := bnd fa fun x => bnd fb fun y => gv (g x y)
theorem ok_opP {r : R2} {g : D → D → Option Val} (hr : OpS c r g) (ha : Ok (RPk c) c W true fa ta) (hb : Ok (RPk c) c W true fb tb) : Ok (RV c) c W b (pOp g fa fb) (tOp r ta tb) := fun O fp H ρ σ Q S h =>
  ha.thnI S.tr S .refl (fun _ => .refl) h fun x ρ1 u H1 O1 fp1 g1 _ S1 E1 _ I1 J1 R1 F1 h1 =>
    hb.thnI S.tr S1 E1 I1 h1 fun y ρ2 v H2 O2 fp2 g2 e2 S2 E2 E12 I2 J12 R2 F2 h2 => by
      obtain ⟨w, ew, h3⟩ := Post.gv h2
      exact hr O2 H2 u v x y w Q S2.tr (Pk.ins R1.1 E12 S1.ow J12) R2.1 ew fun u' H' gg p => Post.pr h3 S.tr S2 E2 I2 p
theorem x_cmpP {op : CmpOp} {r : R2} {g : D → D → Option Val} (h : CmpG c X op r g) (ha : VP c X W a fa) (hb : VP c X W e fb) (hm : behindInMarks op e = false := by rfl) : VE c X W b (.Compare a [op] [e] pos) (pOp g fa fb) := by
  obtain ⟨ta, pa, oa⟩ := ha
  obtain ⟨tb, pb, ob⟩ := hb
  exact ⟨_, pe_cmpR h.o pa pb hm, ok_opP h.s oa ob⟩
theorem t_cmpP {op : CmpOp} {r : R2} {g : D → D → Option Val} (h : CmpG c X op r g) (ha : VP c X W a fa) (hb : VP c X W e fb) (hm : behindInMarks op e = false := by rfl) : VT c X W b (.Compare a [op] [e] pos) (bnd (pOp g fa fb) asB) := by
  obtain ⟨ta, pa, oa⟩ := ha
  obtain ⟨tb, pb, ob⟩ := hb
  exact ⟨_, pt_cmpR h.o pa pb hm, fun O fp H ρ σ Q S h' => (ok_opP (b := b) h.s oa ob).thn S.tr S .refl (fun _ => .refl) h' id fun x ρ1 u H1 O1 fp1 g1 _ S1 E1 _ I1 R1 F1 h1 => Post.asB h1 S1 E1 I1 R1⟩
theorem x_ixP (ha : VP c X W a fa) (hb : VP c X W e fb) (hp : PlainIx e := by intro _ _; rfl) (hK : X.K = c.K := by rfl) : VE c X W b (.Subscript a e pos) (pOp gIx fa fb) := by
  obtain ⟨ta, pa, oa⟩ := ha
  obtain ⟨tb, pb, ob⟩ := hb
  exact ⟨_, pe_ix (r := rIx c.K) (by rw [← hK]; exact ix_seq) pa pb hp, ok_opP s_ix oa ob⟩
/-- a builtin of looked-at values -/
def RPks (c : Vc) : Rl (List D) (List V) := fun O _ H _ _ ds us g => Pks c O H ds us ∧ g = []
def VPs (c : Vc) (X : Cx) (W : WX) (es : List Expr) (f : FG (List D)) : Prop := ∃ te : TA, PA X es te ∧ Ok (RPks c) c W true f te
def pNil : FG (List D) := ret []
def pCons (fa : FG D) (fs : FG (List D)) : FG (List D) := bnd fa fun x => bnd fs fun xs => ret (x :: xs)
theorem vps_nil : VPs c X W [] pNil := ⟨_, pa_nil, fun O fp H ρ σ Q S h => h [] H O fp [] S .refl (fun _ => .refl) ⟨rfl, rfl⟩ fun _ q => (by cases q)⟩
theorem vps_cons {fs : FG (List D)} (ha : VP c X W e fa) (hs : VPs c X W es fs) (hst : starEach (e :: es) X.env = (false, eval e X.env) :: starEach es X.env := by rfl) : VPs c X W (e :: es) (pCons fa fs) := by
  obtain ⟨ta, pa, oa⟩ := ha
  obtain ⟨tb, pb, ob⟩ := hs
  refine ⟨_, pa_cons pa pb hst, fun O fp H ρ σ Q S h => ?_⟩
  refine oa.thnI S.tr S .refl (fun _ => .refl) h fun x ρ1 u H1 O1 fp1 g1 _ S1 E1 _ I1 J1 R1 F1 h1 => ?_
  refine ob.thnI S.tr S1 E1 I1 h1 fun xs ρ2 us H2 O2 fp2 g2 _ S2 E2 E12 I2 J12 R2 F2 h2 => ?_
  exact h2 (u :: us) H2 O2 fp2 [] S2 E2 I2 ⟨⟨u, us, rfl, Pk.ins R1.1 E12 S1.ow J12, R2.1⟩, rfl⟩ fun _ q => (by cases q)
def pCall (g : List D → Option Val) (fs : FG (List D)) : FE := bnd fs fun ds => gv (g ds)
theorem ok_callP {r : List V → Hp → VK → Prop} {g : List D → Option Val} {fs : FG (List D)} {ts : TA} (hr : CaS c r g) (hs : Ok (RPks c) c W true fs ts) : Ok (RV c) c W b (pCall g fs) (tCB r ts) := fun O fp H ρ σ Q S h =>
  hs.thnI S.tr S .refl (fun _ => .refl) h fun ds ρ1 us H1 O1 fp1 g1 _ S1 E1 _ I1 J1 R1 F1 h1 => by
    obtain ⟨w, ew, h3⟩ := Post.gv h1
    exact hr O1 H1 us ds w Q S1.tr R1.1 ew fun u' H' gg p => Post.pr h3 S.tr S1 E1 I1 p
theorem x_lenP {fs : FG (List D)} (hm : X.mg "len" = none) (ha : VPs c X W [e] fs) (hg : Gl X "len" := by rfl) (hK : X.K = c.K := by rfl) (he : starEach (e :: []) X.env = (false, eval e X.env) :: starEach [] X.env := by rfl) : VE c X W b (.Call (.Name "len" p) [e] [] pos) (pCall gLen fs) := by
  obtain ⟨ts, ps, os⟩ := ha
  exact ⟨_, pe_callB (r := fun xs H Q => ∃ x n, xs = [x] ∧ LenV c.K x H n ∧ Q (.int n) H) (by rw [← hK]; exact call_len) hg hm boot_len ps (by decide) (by decide) he (by rfl), ok_callP s_len os⟩
/-- a looked-at value as a test -/
def pTru (fa : FG D) : FG Bool := bnd fa fun d ρ => match dTru d with
  | some k => some (.val k ρ)
  | none => none
theorem t_truP (ha : VP c X W a fa) (hK : X.K = c.K := by rfl) (he : ∀ whole, isTrue a X.env whole = (do let v ← whole; standAt a.pos; holding [v] (truthy v)) := by intro _; rfl) : VT c X W b a (pTru fa) := by
  obtain ⟨ta, pa, oa⟩ := ha
  refine ⟨_, pt_truth pa he, fun O fp H ρ σ Q S h => oa.thnI S.tr S .refl (fun _ => .refl) h fun d ρ1 u H1 O1 fp1 g1 _ S1 E1 _ I1 J1 R1 F1 h1 => ?_⟩
  cases et : dTru d with
  | none => rw [et] at h1; exact h1.elim
  | some k =>
    rw [et] at h1
    exact ⟨k, dTru_ok hK R1.1 et, h1 k H1 O1 fp1 [] S1 E1 I1 ⟨rfl, rfl⟩ fun _ q => (by cases q)⟩
end
end Vl

namespace Vl
open PySem PySem.Spec PyProof.Rows L2 He
section
variable {c : Vc} {X : Cx} {W : WX} {b : Bool} {bor vs : List Nat} {O O1 O2 O' : Addr → Prop} {fp fp1 fp2 fp' fq : List Addr} {H H1 H2 H' : Hp} {ρ ρ1 ρ2 ρ' : Env} {σ σ1 σ' : L2.St} {k i n : Nat} {α β : Type} {D1 : Ends}
variable {a e e' o tg iter : Expr} {es : List Expr} {pos p pos' apos cpos p1 p2 : Pos} {x : Str} {nm fl gl : Str} {fs : FG (List Val)} {ta tb : TE}
/-! ### x.f.m(..): a list in a field is changed -/
def kMuF (g : T → List D → Option (D × T)) (i : Nat) (nm fl : Str) (ws : List Val) : FE := fun ρ => match ρ[i]?, fzs ws with
  | some (some (.obj n fs)), some ds => if n = nm then match fs.lookup fl with
    | some (.lst xs) => match g (.lst xs) ds with
      | some (w, t') => some (.val (.fr w) (ρ.set i (some (.obj n (putT fl t' fs)))))
      | none => none
    | _ => none
    else none
  | _, _ => none
def vMuF (g : T → List D → Option (D × T)) (i : Nat) (nm fl : Str) (fs : FG (List Val)) : FE := fun ρ => match ρ[i]? with
  | some (some (.obj n ts)) => if n = nm then match ts.lookup fl with
    | some (.lst _) => bnd fs (kMuF g i nm fl) ρ
    | _ => none
    else none
  | _ => none
theorem ve_muF {m : Str} {id : String} {r : V → List V → Hp → VK → Prop} {g : T → List D → Option (D × T)} (slot : Slot "list" m id) (hty : typeOf (.builtin id) = pure (.type "method_descriptor")) (hm : MtR X id r) (hr : MuS c r g)
    (i : Nat) (hK : X.K = c.K) (hc : Cls c.K (c.cl nm)) (hn : NoAttr c.K (c.cl nm) fl) (ha : VA c X W true (e :: es) fs) (hN : X.N[i]? = some x := by rfl) (hv : Vis X.env.scope x := by first | exact Or.inl rfl | exact Or.inr (Or.inl rfl) | exact Or.inr (Or.inr rfl)) (hd : (x == ("__debug__" : Str)) = false := by decide)
    (hcd : (x == ("__classdict__" : Str)) = false := by decide) (hb : attributeBase (.Name x p) fl X.env (eval (.Name x p) X.env) = eval (.Name x p) X.env := by rfl)
    (hbase : attributeBase (.Attribute (.Name x p) fl p1) m X.env (eval (.Attribute (.Name x p) fl p1) X.env) = eval (.Attribute (.Name x p) fl p1) X.env := by rfl)
    (hfew : ((backTo cpos (starEach (e :: es) X.env)).all (fun x => !x.1) && (backToKw cpos (keywordEach [] X.env)).all (fun x => x.1.isSome)
      && decide ((e :: es).length + ([] : List Keyword).length + (if ([] : List Keyword).isEmpty then 0 else 1) < 30)) = true := by rfl)
    (hline : (apos.endLine == cpos.line) = true := by rfl) (hs : starEach (e :: es) X.env = (false, eval e X.env) :: starEach es X.env := by rfl) (hplain : (backTo cpos (starEach es X.env)).any (·.1) = false := by rfl) :
    VE c X W false (.Call (.Attribute (.Attribute (.Name x p) fl p1) m apos) (e :: es) [] cpos) (vMuF g i nm fl fs) := by
  obtain ⟨ts, ps, os⟩ := ha
  refine ⟨_, pe_bm PySem.F.plainAttrs_list slot hty hm (pe_fld (pv i hN hv hd hcd) hb) ps hbase hfew hline hs hplain, fun O fp H ρ σ Q S h => ?_⟩
  unfold vMuF at h
  cases e1 : ρ[i]? with
  | none => rw [e1] at h; exact h.elim
  | some o =>
    rw [e1] at h
    cases o with
    | none => exact h.elim
    | some t =>
      cases t with
      | obj n fs0 =>
        simp only at h
        by_cases en : n = nm
        · subst en
          rw [if_pos rfl] at h
          cases el : fs0.lookup fl with
          | none => rw [el] at h; exact h.elim
          | some t' =>
            rw [el] at h
            cases t' with
            | lst xs0 =>
              obtain ⟨a, dx, vs, x1, f1, q1, q2, q3, q4, _⟩ := S.mutF e1 el
              obtain ⟨l1, vs1, ex, hl1, _⟩ := q4
              subst ex
              rw [hK]
              refine ⟨_, q1, a, _, dx, vs, _, rfl, q2, hc, hn, q3, .inl ⟨rfl, vs1, sqL_of hl1⟩, ?_⟩
              refine os.thnI S.tr S .refl (fun _ => .refl) h fun ws ρ2 us H2 O2 fp2 g2 _ S2 E2 E12 I2 J R2 F2 h2 => ?_
              unfold kMuF at h2
              cases e2 : ρ2[i]? with
              | none => simp only [e2] at h2; exact h2.elim
              | some o2 =>
                cases ez : fzs ws with
                | none => cases o2 with
                  | none => simp only [e2, ez] at h2; exact h2.elim
                  | some t2 => cases t2 <;> (simp only [e2, ez] at h2; exact h2.elim)
                | some ds =>
                  cases o2 with
                  | none => simp only [e2, ez] at h2; exact h2.elim
                  | some t2 =>
                    cases t2 with
                    | obj n2 fs2 =>
                      simp only [e2, ez] at h2
                      by_cases en2 : n2 = n
                      · subst en2
                        rw [if_pos rfl] at h2
                        cases el2 : fs2.lookup fl with
                        | none => rw [el2] at h2; exact h2.elim
                        | some t3 =>
                          rw [el2] at h2
                          cases t3 with
                          | lst xs2 =>
                            simp only at h2
                            cases eg : g (.lst xs2) ds with
                            | none => rw [eg] at h2; exact h2.elim
                            | some r2 =>
                              obtain ⟨w, t'⟩ := r2
                              rw [eg] at h2
                              -- the arguments come to rest
                              have S3 := S2.less fun a ha => (R2.own a ha).2
                              have RR := R2.rest (O1 := fun a => O2 a ∧ a ∉ g2) ez (fun a q => q.1) (fun a ha q => q.2 ha)
                              have E3 := E2.less S.tr F2
                              obtain ⟨a3, dx3, vs3, x3, f3, w1, w2, w3, w4, w5, w6, w7, mk⟩ := S3.mutF e2 el2
                              have ea : a3 = a := by
                                rw [q1] at w1
                                cases w1
                                rfl
                              subst ea
                              have h4 : H2 a3 = H a3 := J a3 (.of q2)
                              rw [h4, q2] at w2
                              cases w2
                              rw [q3] at w3
                              cases w3
                              refine hr _ H2 _ us _ ds w t' f3 Q w4 w5 w6 RR eg fun u H5 k1 k2 k3 k4 => ?_
                              obtain ⟨S5, E5⟩ := mk H5 t' k1 k2 k3
                              exact h2 u H5 _ fp2 [] S5 (E3.trans E5 S.tr) (fun q => (by cases q)) ⟨k4, rfl⟩ fun _ q => (by cases q)
                          | _ => exact h2.elim
                      · rw [if_neg en2] at h2; exact h2.elim
                    | _ => simp only [e2, ez] at h2; exact h2.elim
            | _ => exact h.elim
        · rw [if_neg en] at h; exact h.elim
      | _ => exact h.elim
/-- x.f.pop() -/
theorem ve_muF0 {m : Str} {id : String} {r : V → List V → Hp → VK → Prop} {g : T → List D → Option (D × T)} (slot : Slot "list" m id) (hty : typeOf (.builtin id) = pure (.type "method_descriptor")) (hm : MtR X id r) (hr : MuS c r g)
    (i : Nat) (hK : X.K = c.K) (hc : Cls c.K (c.cl nm)) (hn : NoAttr c.K (c.cl nm) fl) (hN : X.N[i]? = some x := by rfl) (hv : Vis X.env.scope x := by first | exact Or.inl rfl | exact Or.inr (Or.inl rfl) | exact Or.inr (Or.inr rfl)) (hd : (x == ("__debug__" : Str)) = false := by decide)
    (hcd : (x == ("__classdict__" : Str)) = false := by decide) (hb : attributeBase (.Name x p) fl X.env (eval (.Name x p) X.env) = eval (.Name x p) X.env := by rfl)
    (hbase : attributeBase (.Attribute (.Name x p) fl p1) m X.env (eval (.Attribute (.Name x p) fl p1) X.env) = eval (.Attribute (.Name x p) fl p1) X.env := by rfl)
    (hline : (apos.endLine == cpos.line) = true := by rfl) :
    VE c X W false (.Call (.Attribute (.Attribute (.Name x p) fl p1) m apos) [] [] cpos) (vMuF g i nm fl vNil) := by
  refine ⟨_, pe_bm0 PySem.F.plainAttrs_list slot hty hm (pe_fld (pv i hN hv hd hcd) hb) hbase hline, fun O fp H ρ σ Q S h => ?_⟩
  unfold vMuF at h
  cases e1 : ρ[i]? with
  | none => rw [e1] at h; exact h.elim
  | some o =>
    rw [e1] at h
    cases o with
    | none => exact h.elim
    | some t =>
      cases t with
      | obj n fs0 =>
        simp only at h
        by_cases en : n = nm
        · subst en
          rw [if_pos rfl] at h
          cases el : fs0.lookup fl with
          | none => rw [el] at h; exact h.elim
          | some t' =>
            rw [el] at h
            cases t' with
            | lst xs0 =>
              obtain ⟨a, dx, vs, x1, f1, q1, q2, q3, q4, q5, q6, q7, mk⟩ := S.mutF e1 el
              have q4' := q4
              obtain ⟨l1, vs1, ex, hl1, _⟩ := q4'
              subst ex
              rw [hK]
              refine ⟨_, q1, a, _, dx, vs, _, rfl, q2, hc, hn, q3, .inl ⟨rfl, vs1, sqL_of hl1⟩, ?_⟩
              simp only [bnd, vNil, ret, kMuF, e1, fzs, el, if_true] at h
              cases eg : g (.lst xs0) [] with
              | none => rw [eg] at h; exact h.elim
              | some r2 =>
                obtain ⟨w, t'⟩ := r2
                rw [eg] at h
                refine hr O H _ [] _ [] w t' f1 Q q4 q5 q6 (rfl : ([] : List V) = []) eg fun u H5 k1 k2 k3 k4 => ?_
                obtain ⟨S5, E5⟩ := mk H5 t' k1 k2 k3
                exact h u H5 O fp [] S5 E5 (fun q => (by cases q)) ⟨k4, rfl⟩ fun _ q => (by cases q)
            | _ => exact h.elim
        · rw [if_neg en] at h; exact h.elim
      | _ => exact h.elim
end
end Vl

namespace Vl
open PySem PySem.Spec PyProof.Rows L2 He
section
variable {c : Vc} {X : Cx} {W : WX} {b : Bool} {bor vs : List Nat} {O O1 O2 O' : Addr → Prop} {fp fp1 fp2 fp' fq : List Addr} {H H1 H2 H' : Hp} {ρ ρ1 ρ2 ρ' : Env} {σ σ1 σ' : L2.St} {k i n : Nat} {α β : Type} {D1 : Ends}
variable {a e e' o tg iter : Expr} {es : List Expr} {pos p pos' apos bpos cpos dpos p1 p2 p3 p4 : Pos} {x : Str} {nm fl gl : Str} {fs : FG (List Val)} {ta tb : TE}
theorem x_appendF (i : Nat) (hc : Cls c.K (c.cl nm)) (hn : NoAttr c.K (c.cl nm) fl) (ha : VA c X W true [e] fs) (hK : X.K = c.K := by rfl) (hN : X.N[i]? = some x := by rfl) (hv : Vis X.env.scope x := by first | exact Or.inl rfl | exact Or.inr (Or.inl rfl) | exact Or.inr (Or.inr rfl)) (hd : (x == ("__debug__" : Str)) = false := by decide)
    (hcd : (x == ("__classdict__" : Str)) = false := by decide) (hb : attributeBase (.Name x p) fl X.env (eval (.Name x p) X.env) = eval (.Name x p) X.env := by rfl)
    (hbase : attributeBase (.Attribute (.Name x p) fl p1) "append" X.env (eval (.Attribute (.Name x p) fl p1) X.env) = eval (.Attribute (.Name x p) fl p1) X.env := by rfl)
    (hfew : ((backTo cpos (starEach (e :: []) X.env)).all (fun x => !x.1) && (backToKw cpos (keywordEach [] X.env)).all (fun x => x.1.isSome)
      && decide ((e :: []).length + ([] : List Keyword).length + (if ([] : List Keyword).isEmpty then 0 else 1) < 30)) = true := by rfl)
    (hline : (apos.endLine == cpos.line) = true := by rfl) (hs : starEach (e :: []) X.env = (false, eval e X.env) :: starEach [] X.env := by rfl) (hplain : (backTo cpos (starEach [] X.env)).any (·.1) = false := by rfl) :
    VE c X W false (.Call (.Attribute (.Attribute (.Name x p) fl p1) "append" apos) [e] [] cpos) (vMuF muAppend i nm fl fs) :=
  ve_muF PySem.F.slot_list_append PySem.F.type_list_append mt_append s_append i hK hc hn ha hN hv hd hcd hb hbase hfew hline hs hplain
theorem x_popF (i : Nat) (hc : Cls c.K (c.cl nm)) (hn : NoAttr c.K (c.cl nm) fl) (hK : X.K = c.K := by rfl) (hN : X.N[i]? = some x := by rfl) (hv : Vis X.env.scope x := by first | exact Or.inl rfl | exact Or.inr (Or.inl rfl) | exact Or.inr (Or.inr rfl)) (hd : (x == ("__debug__" : Str)) = false := by decide)
    (hcd : (x == ("__classdict__" : Str)) = false := by decide) (hb : attributeBase (.Name x p) fl X.env (eval (.Name x p) X.env) = eval (.Name x p) X.env := by rfl)
    (hbase : attributeBase (.Attribute (.Name x p) fl p1) "pop" X.env (eval (.Attribute (.Name x p) fl p1) X.env) = eval (.Attribute (.Name x p) fl p1) X.env := by rfl)
    (hline : (apos.endLine == cpos.line) = true := by rfl) :
    VE c X W false (.Call (.Attribute (.Attribute (.Name x p) fl p1) "pop" apos) [] [] cpos) (vMuF muPop i nm fl vNil) :=
  ve_muF0 PySem.F.slot_list_pop PySem.F.type_list_pop mt_pop s_pop i hK hc hn hN hv hd hcd hb hbase hline
theorem look_put {t : T} {fl gl : Str} (h : fl ≠ gl) : ∀ {fs : List (Str × T)}, (putT gl t fs).lookup fl = fs.lookup fl
  | [] => by
    have q : (fl == gl) = false := by simpa using h
    simp [putT, List.lookup, q]
  | (k, t0) :: fs => by
    unfold putT
    by_cases e : k = gl
    · have q : (fl == k) = false := by rw [e]; simpa using h
      rw [if_pos e]
      simp [List.lookup, q]
    · rw [if_neg e]
      simp only [List.lookup]
      rw [look_put h]
/-- x.f.append(x.g.pop()) -/
def vMovF (i : Nat) (nm fl gl : Str) : FE := fun ρ => match ρ[i]? with
  | some (some (.obj n fs)) => if n = nm ∧ fl ≠ gl then match fs.lookup fl, fs.lookup gl with
    | some (.lst xs), some (.lst ys) => match ys[ys.length - 1]? with
      | some d => if szL xs.length then some (.val (.fr .non) (ρ.set i (some (.obj n (putT fl (.lst (xs ++ [d])) (putT gl (.lst ys.dropLast) fs)))))) else none
      | none => none
    | _, _ => none
    else none
  | _ => none
theorem x_movF (i : Nat) (hc : Cls c.K (c.cl nm)) (hn : NoAttr c.K (c.cl nm) fl) (hn' : NoAttr c.K (c.cl nm) gl) (hK : X.K = c.K := by rfl) (hN : X.N[i]? = some x := by rfl) (hv : Vis X.env.scope x := by first | exact Or.inl rfl | exact Or.inr (Or.inl rfl) | exact Or.inr (Or.inr rfl)) (hd : (x == ("__debug__" : Str)) = false := by decide)
    (hcd : (x == ("__classdict__" : Str)) = false := by decide) (hb : attributeBase (.Name x p) fl X.env (eval (.Name x p) X.env) = eval (.Name x p) X.env := by rfl)
    (hbase : attributeBase (.Attribute (.Name x p) fl p1) "append" X.env (eval (.Attribute (.Name x p) fl p1) X.env) = eval (.Attribute (.Name x p) fl p1) X.env := by rfl)
    (hb' : attributeBase (.Name x p2) gl X.env (eval (.Name x p2) X.env) = eval (.Name x p2) X.env := by rfl)
    (hbase' : attributeBase (.Attribute (.Name x p2) gl p3) "pop" X.env (eval (.Attribute (.Name x p2) gl p3) X.env) = eval (.Attribute (.Name x p2) gl p3) X.env := by rfl)
    (hfew : ((backTo cpos (starEach (.Call (.Attribute (.Attribute (.Name x p2) gl p3) "pop" bpos) [] [] dpos :: []) X.env)).all (fun x => !x.1) && (backToKw cpos (keywordEach [] X.env)).all (fun x => x.1.isSome)
      && decide ((Expr.Call (.Attribute (.Attribute (.Name x p2) gl p3) "pop" bpos) [] [] dpos :: []).length + ([] : List Keyword).length + (if ([] : List Keyword).isEmpty then 0 else 1) < 30)) = true := by rfl)
    (hline : (apos.endLine == cpos.line) = true := by rfl) (hline' : (bpos.endLine == dpos.line) = true := by rfl)
    (hs : starEach (.Call (.Attribute (.Attribute (.Name x p2) gl p3) "pop" bpos) [] [] dpos :: []) X.env = (false, eval (.Call (.Attribute (.Attribute (.Name x p2) gl p3) "pop" bpos) [] [] dpos) X.env) :: starEach [] X.env := by rfl) (hplain : (backTo cpos (starEach [] X.env)).any (·.1) = false := by rfl) :
    VE c X W false (.Call (.Attribute (.Attribute (.Name x p) fl p1) "append" apos) [.Call (.Attribute (.Attribute (.Name x p2) gl p3) "pop" bpos) [] [] dpos] [] cpos) (vMovF i nm fl gl) := by
  refine ⟨_, pe_bm PySem.F.plainAttrs_list PySem.F.slot_list_append PySem.F.type_list_append mt_append (pe_fld (pv i hN hv hd hcd) hb)
    (pa_cons (pe_bm0 PySem.F.plainAttrs_list PySem.F.slot_list_pop PySem.F.type_list_pop mt_pop (pe_fld (pv i hN hv hd hcd) hb') hbase' hline') pa_nil hs) hbase hfew hline hs hplain, fun O fp H ρ σ Q S h => ?_⟩
  unfold vMovF at h
  cases e1 : ρ[i]? with
  | none => rw [e1] at h; exact h.elim
  | some o =>
    rw [e1] at h
    cases o with
    | none => exact h.elim
    | some t =>
      cases t with
      | obj n fs0 =>
        simp only at h
        by_cases en : n = nm ∧ fl ≠ gl
        · rw [if_pos en] at h
          obtain ⟨rfl, hfg⟩ := en
          cases el : fs0.lookup fl with
          | none => rw [el] at h; exact h.elim
          | some tx =>
            cases eg : fs0.lookup gl with
            | none => rw [el, eg] at h; cases tx <;> exact h.elim
            | some ty =>
              rw [el, eg] at h
              cases tx with
              | lst xs =>
                cases ty with
                | lst ys =>
                  simp only at h
                  cases ed : ys[ys.length - 1]? with
                  | none => rw [ed] at h; exact h.elim
                  | some d =>
                    rw [ed] at h
                    simp only at h
                    by_cases hz : szL xs.length = true
                    · rw [if_pos hz] at h
                      obtain ⟨a, dx, vs, x1, f1, q1, q2, q3, q4, _⟩ := S.mutF e1 el
                      obtain ⟨a', dx', vs', x2, f2, r1, r2, r3, r4, r5, r6, r7, mk⟩ := S.mutF e1 eg
                      obtain ⟨l1, vs1, ex, hl1, _⟩ := q4
                      subst ex
                      have r4' := r4
                      obtain ⟨l2, vs2, ex2, hl2, _, ef2⟩ := r4'
                      subst ex2
                      have ea : a' = a := by rw [q1] at r1; cases r1; rfl
                      subst ea
                      have na : a' ∉ f2 := fun z => by
                        rw [ef2] at z
                        have z : a' = l2 := by simpa using z
                        rw [z, hl2] at q2
                        cases q2
                      rw [hK]
                      refine ⟨_, q1, a', _, dx, vs, _, rfl, q2, hc, hn, q3, .inl ⟨rfl, vs1, sqL_of hl1⟩, ?_⟩
                      refine ⟨_, q1, a', _, dx', vs', _, rfl, r2, hc, hn', r3, .inl ⟨rfl, vs2, sqL_of hl2⟩, ?_⟩
                      refine s_pop O H _ [] (.lst ys) [] d (.lst ys.dropLast) f2 _ r4 r5 r6 (rfl : ([] : List V) = []) (by simp [muPop, ed]) fun u H5 k1 k2 k3 k4 => ?_
                      obtain ⟨S5, E5⟩ := mk H5 _ k1 k2 k3
                      have hi : i < ρ.length := (List.getElem?_eq_some_iff.mp e1).1
                      have e5 : (ρ.set i (some (.obj n (putT gl (.lst ys.dropLast) fs0))))[i]? = some (some (.obj n (putT gl (.lst ys.dropLast) fs0))) := by rw [List.getElem?_set_self hi]
                      have el5 : (putT gl (.lst ys.dropLast) fs0).lookup fl = some (.lst xs) := (look_put hfg).trans el
                      obtain ⟨a3, dx3, vs3, x3, f3, w1, w2, w3, w4, w5, w6, w7, mk3⟩ := S5.mutF e5 el5
                      have ea : a3 = a' := by rw [q1] at w1; cases w1; rfl
                      subst ea
                      rw [k1 _ na, q2] at w2
                      cases w2
                      rw [q3] at w3
                      cases w3
                      refine s_append O H5 _ [u] (.lst xs) [d] .non (.lst (xs ++ [d])) f3 Q w4 w5 w6 ⟨u, [], rfl, k4, (rfl : ([] : List V) = [])⟩ (by simp only [muAppend, if_pos hz]) fun u' H6 m1 m2 m3 m4 => ?_
                      obtain ⟨S6, E6⟩ := mk3 H6 _ m1 m2 m3
                      rw [List.set_set] at S6
                      exact h u' H6 O fp [] S6 (E5.trans E6 S.tr) (fun q => (by cases q)) ⟨m4, rfl⟩ fun _ q => (by cases q)
                    · rw [if_neg hz] at h; exact h.elim
                | _ => exact h.elim
              | _ => cases ty <;> exact h.elim
        · rw [if_neg en] at h; exact h.elim
      | _ => exact h.elim
end
end Vl

namespace Vl
open PySem PySem.Spec PyProof.Rows L2 He
section
variable {c : Vc} {X : Cx} {W : WX} {b : Bool} {bor vs : List Nat} {O O1 O2 O' : Addr → Prop} {fp fp0 fp1 fp2 fp' fq : List Addr} {H H1 H2 H' : Hp} {ρ ρ1 ρ2 ρ' : Env} {σ σ1 σ' : L2.St} {k i n : Nat} {α β : Type} {D1 : Ends}
variable {e e' o tg iter : Expr} {body : List Stmt} {pos p pos' apos p1 : Pos} {x : Str} {nm fl : Str} {gt : FT} {f : FS}
/-! ### for over one's own list that the body leaves alone -/
theorem for_core {g : TG} {tb : TS} {J : It} {ds : List D} (hg : OkG c X.K bor gt g) (hb : OkS c W bor f tb) (S1 : SR c O1 fp1 H1 ρ1 σ) (Y : Yl c J ds O1 fp1 H1) (h : PostS c W bor O1 fp1 H1 σ (loopD gt f ds ρ1) D1) :
    ∃ V : Nat → Nat → L2.St → Hp → Prop, (∃ m, V 0 m σ H1) ∧ ∀ i m σ H, V i m σ H → (J.stop i H ∧ D1.nx σ H) ∨ (J.go i H ∧ ∃ N : L2.St → Hp → Prop, (∀ σ' H', N σ' H' → ∃ m', m' < m ∧ V (i + 1) m' σ' H') ∧ ∀ x H', J.yld i H x H' → g x σ H' fun σ2 H2 => tb { D1 with nx := N, ct := N, bk := D1.nx } σ2 H2) := by
  refine ⟨fun i m σ' H' => m = ds.length - i ∧ i ≤ ds.length ∧ ∃ O' fp' ρ', SR c O' fp' H' ρ' σ' ∧ Ext fp1 O1 H1 fp' O' H' ∧ Bk bor σ σ' ∧ PostS c W bor O' fp' H' σ' (loopD gt f (ds.drop i) ρ') D1, ⟨_, rfl, Nat.zero_le _, O1, fp1, ρ1, S1, .refl, .refl, h⟩, ?_⟩
  rintro i m σ' H' ⟨rfl, hi, O', fp', ρ', S', E', B', h'⟩
  by_cases hlt : i < ds.length
  · have e := List.getElem?_eq_getElem hlt
    obtain ⟨go, yl⟩ := Y.go O' fp' H' i _ E' S'.ow S'.tr e
    refine .inr ⟨go, fun σ2 H2 => ∃ O2 fp2 ρ2, SR c O2 fp2 H2 ρ2 σ2 ∧ Ext fp1 O1 H1 fp2 O2 H2 ∧ Bk bor σ σ2 ∧ PostS c W bor O2 fp2 H2 σ2 (loopD gt f (ds.drop (i + 1)) ρ2) D1, fun σ2 H2 ⟨O2, fp2, ρ2, q1, q2, q3, q4⟩ => ⟨ds.length - (i + 1), by omega, rfl, hlt, O2, fp2, ρ2, q1, q2, q3, q4⟩, fun x H3 y => ?_⟩
    obtain ⟨kp, rd⟩ := yl x H3 y
    have S3 : SR c O' fp' H3 ρ' σ' := ⟨S'.rs.stb (.of (fun a _ h => kp a h.ne) fun a h => .inl h) fun a ha => kp a (S'.tr a (S'.ow a ha)).ne, S'.nd, S'.ow, fun b h => by rw [kp b (S'.tr b h).ne]; exact S'.tr b h, fun P hP => by
      obtain ⟨ps, e, k⟩ := S'.tb P hP
      exact ⟨ps, by rw [kp P (by rw [e]; simp)]; exact e, k⟩, fun p hp => (S'.px p hp).stb (.of (fun a _ h => kp a h.ne) fun a h => .inl h)⟩
    have E3 : Ext fp' O' H' fp' O' H3 := ⟨fun b h _ => kp b h.ne, fun b h => by rw [kp b h]; exact h, fun _ h _ => h, fun _ h => .inl h, fun _ h => .inl h⟩
    rw [List.drop_eq_getElem_cons hlt] at h'
    unfold loopD at h'
    revert h'
    cases eg : gt ds[i] ρ' with
    | none => exact fun h => h.elim
    | some ρ2 =>
      intro h'
      refine hg O' fp' H3 ρ' σ' _ x ρ2 _ S3 rd eg fun σ4 fp4 S4 k4 B4 => ?_
      have E4 : Ext fp' O' H' fp4 O' H3 := ⟨E3.kp, E3.th, E3.ok, E3.on, fun a ha => .inl (k4 a ha)⟩
      have h4 := h'.shift E4 S'.tr B4
      have E14 : Ext fp1 O1 H1 fp4 O' H3 := E'.trans E4 S1.tr
      refine hb O' fp4 H3 ρ2 σ4 _ S4 ?_
      revert h4
      dsimp only
      cases f ρ2 with
      | none => exact fun h => h
      | some o =>
        cases o with
        | nx ρ5 => exact fun h4 σ5 H5 O5 fp5 S5 E5 B5 => ⟨O5, fp5, ρ5, S5, E14.trans E5 S1.tr, (B'.trans B4).trans B5, h4.shift E5 S4.tr B5⟩
        | cnt ρ5 => exact fun h4 σ5 H5 O5 fp5 S5 E5 B5 => ⟨O5, fp5, ρ5, S5, E14.trans E5 S1.tr, (B'.trans B4).trans B5, h4.shift E5 S4.tr B5⟩
        | brk ρ5 => exact fun h4 => h4
        | ret w ρ5 => exact fun h4 => h4
        | exc x ρ5 => exact fun h4 => h4
  · have ei : i = ds.length := by omega
    subst ei
    rw [List.drop_length] at h'
    exact .inl ⟨Y.stop O' fp' H' E' S'.tr, h' σ' H' O' fp' S' .refl .refl⟩
/-- one's own list that no slot holds: the turn's reading gives the item whatever list stands there -/
theorem yl_own {a : Addr} {vs : List V} {ds : List D} (h : H a = some (.lst vs)) (na : a ∉ fp) (r : RDs c O H ds vs) (ow : ∀ b ∈ fp, O b) : Yl c (Itl c.K a) ds O fp H where
  go := fun O2 fp2 H2 i d E _ _ e => by
    have k : H2 a = some (.lst vs) := (E.kp a (.of h) na).trans h
    obtain ⟨v, h1, h2⟩ := (r.stb (E.stb ow)).get e
    refine ⟨⟨vs, v, sqL_of k, h1⟩, fun x H3 y => ?_⟩
    obtain ⟨rfl, y⟩ := y
    have q := y vs (sqL_of k)
    rw [h1] at q
    cases q
    exact ⟨fun b hb => rfl, h2⟩
  stop := fun O2 fp2 H2 E _ => by
    have k : H2 a = some (.lst vs) := (E.kp a (.of h) na).trans h
    exact ⟨vs, sqL_of k, by rw [r.len]; exact Nat.le_refl _⟩
def restS (i : Nat) (t : T) : Option OutS → Option OutS
  | some (.nx ρ) => some (.nx (ρ.set i (some t)))
  | some (.brk ρ) => some (.brk (ρ.set i (some t)))
  | some (.cnt ρ) => some (.cnt (ρ.set i (some t)))
  | some (.ret w ρ) => some (.ret w (ρ.set i (some t)))
  | some (.exc x ρ) => some (.exc x (ρ.set i (some t)))
  | none => none
theorem unhold {t : T} {r : Option OutS} {v : V} {g : List Addr} (S : SR c O fp H ρ σ) (hv : σ[i]? = some (some v)) (R : RT c O H t v g) (ng : g.Nodup) (og : ∀ a ∈ g, O a) (gp : ∀ a ∈ g, a ∈ fp) (dj : ∀ a ∈ g, a ∉ fp0) (sub : ∀ a ∈ fp0, a ∈ fp) (h : PostS c W bor O fp H σ (restS i t r) D1) : PostS c W (i :: bor) O fp0 H σ r D1 := by
  have back : ∀ {σ' : L2.St} {H' : Hp} {O' : Addr → Prop} {fp' : List Addr} {ρ' : Env}, SR c O' fp' H' ρ' σ' → Ext fp0 O H fp' O' H' → Bk (i :: bor) σ σ' → ∃ fp3, SR c O' fp3 H' (ρ'.set i (some t)) σ' ∧ Ext fp O H fp3 O' H' ∧ Bk bor σ σ' ∧ (∀ a ∈ fp3, a ∈ fp' ∨ a ∈ g) := fun {σ' H' O' fp' ρ'} S' E' B' => by
    have hv' : σ'[i]? = some (some v) := (B' i (by simp)).trans hv
    have hi : i < ρ'.length := by rw [← S'.rs.len]; exact (List.getElem?_eq_some_iff.mp hv').1
    have st : Stb O H O' H' := E'.stb fun a ha => S.ow a (sub a ha)
    have R' : RT c O' H' t v g := R.stb st fun a ha => E'.kp a (S.tr a (og a ha)) (dj a ha)
    obtain ⟨fp3, S3, k3⟩ := S'.put (i := i) (.inr hv') hi R' ng fun a ha => ⟨E'.ok a (og a ha) (dj a ha), fun z => (E'.fn a z).elim (dj a ha) (S.tr a (og a ha)).ne⟩
    rw [set_same hv'] at S3
    refine ⟨fp3, S3, ⟨fun b hb n => E'.kp b hb fun z => n (sub b z), E'.th, fun b hb n => E'.ok b hb fun z => n (sub b z), E'.on, fun b hb => ?_⟩, fun j hj => B' j (by simp [hj]), k3⟩
    rcases k3 b hb with z | z
    · exact (E'.fn b z).imp (sub b) id
    · exact .inl (gp b z)
  cases r with
  | none => exact h
  | some o =>
    cases o with
    | nx ρ5 => exact fun σ' H' O' fp' S' E' B' => let ⟨fp3, a, b, d, _⟩ := back S' E' B'; h σ' H' O' fp3 a b d
    | brk ρ5 => exact fun σ' H' O' fp' S' E' B' => let ⟨fp3, a, b, d, _⟩ := back S' E' B'; h σ' H' O' fp3 a b d
    | cnt ρ5 => exact fun σ' H' O' fp' S' E' B' => let ⟨fp3, a, b, d, _⟩ := back S' E' B'; h σ' H' O' fp3 a b d
    | exc y ρ5 => exact fun cls d σ' H' O' fp' S' E' B' X' => let ⟨fp3, a, b, e, _⟩ := back S' E' B'; h cls d σ' H' O' fp3 a b e X'
    | ret w ρ5 =>
      intro u σ' H' O' fp' g' S' E' B' R' F'
      obtain ⟨fp3, a, b, d, k3⟩ := back S' E' B'
      refine h u σ' H' O' fp3 g' a b d ?_ fun y hy => (F' y hy).imp id (sub y)
      cases w with
      | fr d => exact R'
      | al j => exact R'
      | pt j l => exact R'
      | nw t' =>
        obtain ⟨r1, r2, r3⟩ := R'
        refine ⟨r1, r2, fun y hy => ⟨(r3 y hy).1, fun z => ?_⟩⟩
        rcases k3 y z with q | q
        · exact (r3 y hy).2 q
        · rcases F' y hy with q2 | q2
          · exact (S.tr y (og y q)).ne q2
          · exact dj y q q2
/-- .. of slot i, or of a field of slot i's object -/
def ownIt : Option Str → T → Option (List D)
  | none, .lst xs => some xs
  | some fl, .obj _ fs => match fs.lookup fl with
    | some (.lst xs) => some xs
    | _ => none
  | _, _ => none
def sForO (i : Nat) (fd : Option Str) (nm : Str) (gt : FT) (f : FS) : FS := fun ρ => match ρ[i]? with
  | some (some t) => match (match fd, t with | none, _ => true | some _, .obj n _ => decide (n = nm) | _, _ => false), ownIt fd t with
    | true, some ds => restS i t (loopD gt f ds (ρ.set i none))
    | _, _ => none
  | _ => none
theorem hold {t : T} (S : SR c O fp H ρ σ) (hx : i ∉ c.xs.map (·.i)) (e : ρ[i]? = some (some t)) : ∃ v g fp0, σ[i]? = some (some v) ∧ RT c O H t v g ∧ g.Nodup ∧ (∀ a ∈ g, O a) ∧ (∀ a ∈ g, a ∈ fp) ∧ (∀ a ∈ g, a ∉ fp0) ∧ (∀ a ∈ fp0, a ∈ fp) ∧ SR c O fp0 H (ρ.set i none) σ := by
  obtain ⟨v, f, fl, fr, h1, h2, h3, _, h5⟩ := S.rs.get e
  have nd := S.nd
  rw [h3] at nd
  have dj : ∀ a ∈ f, a ∉ fl ++ fr := by
    simp only [List.nodup_append, List.mem_append] at nd ⊢
    rintro a hf (ha | ha)
    · exact nd.1.2.2 a ha a hf rfl
    · exact nd.2.2 a (.inr hf) a ha rfl
  have nf : f.Nodup := by
    simp only [List.nodup_append] at nd
    exact nd.1.2.1
  have inf : ∀ b ∈ f, b ∈ fp := fun b hb => by rw [h3]; simp [hb]
  have sub : ∀ b ∈ fl ++ fr, b ∈ fp := fun b hb => by rw [h3]; rcases List.mem_append.mp hb with z | z <;> simp [z]
  have q := h5 (O' := O) (H' := H) (s' := some v) (.of (fun a _ _ => rfl) fun a h => .inl h) fun a _ => rfl
  rw [set_same h1] at q
  exact ⟨v, f, fl ++ fr, h1, h2, nf, fun b hb => S.ow b (inf b hb), inf, dj, sub, ⟨q, nodup_less nd, fun b hb => S.ow b (sub b hb), S.tr, S.tb, S.px⟩⟩
theorem vs_forO (i : Nat) (hp : PassesOwn (model X.prog X.w) X.A X.env X.xe) (hg : VG c X (i :: bor) tg gt) (hb : VSs c X W (i :: bor) body f) (hK : X.K = c.K := by rfl) (hc : X.calm = true := by rfl) (hN : X.N[i]? = some x := by rfl) (hv : Vis X.env.scope x := by first | exact Or.inl rfl | exact Or.inr (Or.inl rfl) | exact Or.inr (Or.inr rfl)) (hd : (x == ("__debug__" : Str)) = false := by decide)
    (hcd : (x == ("__classdict__" : Str)) = false := by decide) (hxs : i ∉ c.xs.map (·.i) := by exact nmIn rfl) (hs : ∀ y, foldedSetIterable (.Name x p) X.env y = pure y := by intro _; rfl) : VS c X W bor (.For tg (.Name x p) body [] pos) (sForO i none nm gt f) := by
  obtain ⟨g, pg, og⟩ := hg
  obtain ⟨tb, pb, ob⟩ := hb
  refine ⟨_, ps_for hp hc (pi_seq (pv i hN hv hd hcd)) pg pb hs, fun O fp H ρ σ D1 S h => ?_⟩
  unfold sForO at h
  cases e1 : ρ[i]? with
  | none => rw [e1] at h; exact h.elim
  | some o =>
    rw [e1] at h
    cases o with
    | none => exact h.elim
    | some t =>
      simp only at h
      cases t with
      | lst xs =>
        simp only [ownIt] at h
        obtain ⟨v, gg, fp0, q1, q2, q3, q4, q5, q6, q7, S0⟩ := hold S hxs e1
        obtain ⟨a, us, ev, ha, rs, eg⟩ := id q2
        have na : a ∉ fp0 := q6 a (by rw [eg]; simp)
        refine ⟨v, q1, .inl ⟨a, ev, ⟨us, sqL_of ha⟩, ?_⟩⟩
        rw [hK]
        exact for_core og ob S0 (yl_own ha na rs S0.ow) (unhold S q1 q2 q3 q4 q5 q6 q7 h)
      | _ => simp only [ownIt] at h; exact h.elim
theorem vs_forF (i : Nat) (hp : PassesOwn (model X.prog X.w) X.A X.env X.xe) (hcl : Cls c.K (c.cl nm)) (hn : NoAttr c.K (c.cl nm) fl) (hg : VG c X (i :: bor) tg gt) (hb : VSs c X W (i :: bor) body f) (hK : X.K = c.K := by rfl) (hc : X.calm = true := by rfl) (hN : X.N[i]? = some x := by rfl) (hv : Vis X.env.scope x := by first | exact Or.inl rfl | exact Or.inr (Or.inl rfl) | exact Or.inr (Or.inr rfl)) (hd : (x == ("__debug__" : Str)) = false := by decide)
    (hcd : (x == ("__classdict__" : Str)) = false := by decide) (hbb : attributeBase (.Name x p) fl X.env (eval (.Name x p) X.env) = eval (.Name x p) X.env := by rfl) (hxs : i ∉ c.xs.map (·.i) := by exact nmIn rfl) (hs : ∀ y, foldedSetIterable (.Attribute (.Name x p) fl p1) X.env y = pure y := by intro _; rfl) : VS c X W bor (.For tg (.Attribute (.Name x p) fl p1) body [] pos) (sForO i (some fl) nm gt f) := by
  obtain ⟨g, pg, og⟩ := hg
  obtain ⟨tb, pb, ob⟩ := hb
  refine ⟨_, ps_for hp hc (pi_seq (pe_fld (pv i hN hv hd hcd) hbb)) pg pb hs, fun O fp H ρ σ D1 S h => ?_⟩
  unfold sForO at h
  cases e1 : ρ[i]? with
  | none => rw [e1] at h; exact h.elim
  | some o =>
    rw [e1] at h
    cases o with
    | none => exact h.elim
    | some t =>
      simp only at h
      cases t with
      | obj n fs =>
        simp only [ownIt] at h
        by_cases en : n = nm
        · subst en
          simp only [decide_true] at h
          cases el : fs.lookup fl with
          | none => rw [el] at h; exact h.elim
          | some t' =>
            rw [el] at h
            cases t' with
            | lst xs =>
              simp only at h
              obtain ⟨v, gg, fp0, q1, q2, q3, q4, q5, q6, q7, S0⟩ := hold S hxs e1
              obtain ⟨a, dx, us, fq, ev, ha, rf, eg⟩ := id q2
              obtain ⟨y, f1, l, r, hy, R, e3, _⟩ := rf.part el
              obtain ⟨a2, vs2, ev2, ha2, rs, eg2⟩ := R
              have na : a2 ∉ fp0 := q6 a2 (by rw [eg, e3, eg2]; simp)
              rw [hK]
              refine ⟨v, q1, a, _, dx, us, y, ev, ha, hcl, hn, hy, .inl ⟨a2, ev2, ⟨vs2, sqL_of ha2⟩, ?_⟩⟩
              exact for_core og ob S0 (yl_own ha2 na rs S0.ow) (unhold S q1 q2 q3 q4 q5 q6 q7 h)
            | _ => exact h.elim
        · simp only [decide_eq_false en] at h; exact h.elim
      | _ => exact h.elim
end
end Vl

namespace Vl
open PySem PySem.Spec PyProof.Rows L2 He
section
variable {c : Vc} {X : Cx} {W : WX} {b : Bool} {bor vs : List Nat} {O O1 O2 O' : Addr → Prop} {fp fp0 fp1 fp2 fp' fq : List Addr} {H H1 H2 H' : Hp} {ρ ρ1 ρ2 ρ' : Env} {σ σ1 σ' : L2.St} {k i n : Nat} {α β : Type} {D1 : Ends}
variable {a e e' o : Expr} {es : List Expr} {fa fb fo fi : FE} {fs : FG (List Val)} {pos p pos' apos cpos p1 p2 : Pos} {x : Str} {nm fl : Str}
/-! ### a[b], a list, a tuple, a text or a dict -/
theorem ix_dict (hu : X.A.units + 1 < cLine) : IxR X rDG := by
  intro value slice pins s σ H x y v u Q I rx ry h hs
  obtain ⟨a, w, ex, g, q⟩ := h
  subst ex
  obtain rfl : v = Value.ref a := rx
  have hT := dict_typeIs I g
  unfold subscriptTail
  apply wpAny_bind
  rw [getitemInPython_of_ne hT.not_modules]
  apply wpAny_bind
  apply wpAny_specialOf hT PySem.F.slot_dict_getitem.lookup
  have fin : wpAny (model X.prog X.w) X.A (subscripted slice false (.ref a) u) (fun r s₃ => wpAny (model X.prog X.w) X.A (letTemporaryGo value (.ref a) r >>= fun _ => pure r) (EP X pins σ Q) X.xe s₃) X.xe s := by
    rw [hs]
    apply wpAny_operating
    refine d_getItem hu I g ry fun w' s3 I3 rw' => ?_
    apply wpAny_bind
    apply wpAny_letTemporaryGo
    exact wpAny_pure ⟨w, H, I3, rw', q⟩
  first
    | exact wpAny_pure (wpAny_bind fin)
    | exact wpAny_bind (wpAny_pure (wpAny_bind fin))
    | exact wpAny_bind fin
theorem ix_or {r r' : R2} (h : IxR X r) (h' : IxR X r') : IxR X (fun x y H Q => r x y H Q ∨ r' x y H Q) := by
  intro value slice pins s σ H x y v u Q I rx ry q hs
  rcases q with q | q
  · exact h value slice pins s σ H x y v u Q I rx ry q hs
  · exact h' value slice pins s σ H x y v u Q I rx ry q hs
def gIxU : D → D → Option Val := fun x y => (gIx x y).or (gDG x y)
theorem x_ixU (hr : Room k X.A) (ha : VE c X W b a fa) (hb : VE c X W b e fb) (hp : PlainIx e := by intro _ _; rfl) (hK : X.K = c.K := by rfl) : VE c X W b (.Subscript a e pos) (vOp gIxU fa fb) :=
  ve_ix (r := fun x y H Q => rIx c.K x y H Q ∨ rDG x y H Q) (ix_or (by rw [← hK]; exact ix_seq) (ix_dict (by have := hr.units; omega))) (opS_or s_ix s_dg) ha hb hp
theorem x_ixUP {fa fb : FG D} (hr : Room k X.A) (ha : VP c X W a fa) (hb : VP c X W e fb) (hp : PlainIx e := by intro _ _; rfl) (hK : X.K = c.K := by rfl) : VE c X W b (.Subscript a e pos) (pOp gIxU fa fb) := by
  obtain ⟨ta, pa, oa⟩ := ha
  obtain ⟨tb, pb, ob⟩ := hb
  exact ⟨_, pe_ix (r := fun x y H Q => rIx c.K x y H Q ∨ rDG x y H Q) (ix_or (by rw [← hK]; exact ix_seq) (ix_dict (by have := hr.units; omega))) pa pb hp, ok_opP (opS_or s_ix s_dg) oa ob⟩
/-! ### a[b] = v -/
theorem pset_or {r r' : TSet} (h : PSet X r) (h' : PSet X r') : PSet X (fun o i v H Q => r o i v H Q ∨ r' o i v H Q) := by
  intro pins s σ H o i v ov iv u Q I r1 r2 r3 q
  rcases q with q | q
  · exact h pins s σ H o i v ov iv u Q I r1 r2 r3 q
  · exact h' pins s σ H o i v ov iv u Q I r1 r2 r3 q
def seU : T → D → D → Option T := fun t i d => (seL t i d).or (seD t i d)
theorem s_seU : SeS c (fun o i v H Q => rSetL o i v H Q ∨ rSetD o i v H Q) seU := by
  intro O H x y z t di dv t' f Q h1 h2 h3 h4 h5 h6 h7
  unfold seU at h6
  cases e : seL t di dv with
  | some w =>
    rw [e] at h6
    cases h6
    exact .inl (s_seL O H x y z t di dv _ f Q h1 h2 h3 h4 h5 e h7)
  | none =>
    rw [e] at h6
    exact .inr (s_seD O H x y z t di dv _ f Q h1 h2 h3 h4 h5 (by simpa using h6) h7)
theorem x_seU (hr : Room k X.A) (ha : VE c X W false a fa) (ho : VE c X W false o fo) (hi : VE c X W false e fi)
    (h0 : ∀ v, assign (.Subscript o e p2) X.env v = (do
      let ov ← holding [v] (eval o X.env)
      let iv ← holding [v, ov] (eval e X.env)
      standAt p2
      holding [v, ov, iv] (setItem ov iv v)
      release [v, ov, iv] []) := by intro _; rfl)
    (h1 : swapsWithSole [.Subscript o e p2] a pos.line X.env = pure false := by rfl) (h2 : swappedStores [.Subscript o e p2] a X.env = pure none := by rfl)
    (h3 : (assignEach [.Subscript o e p2] X.env).map (·.2) = [assign (.Subscript o e p2) X.env] := by rfl) : VS c X W bor (.Assign [.Subscript o e p2] a pos) (sSe seU fa fo fi) :=
  vs_se (pset_or set_list (set_dict (by have := hr.units; omega))) s_seU ha ho hi h0 h1 h2 h3
/-! ### a in b, b a text too -/
def rInS (neg : Bool) : R2 := fun x y H Q => ∃ i j, x = .str i ∧ y = .str j ∧ Q (.bl (if neg then !(!(Builtin.Str.occurrences j i 0 j.length 1).isEmpty) else !(Builtin.Str.occurrences j i 0 j.length 1).isEmpty)) H
def gInS (neg : Bool) : D → D → Option Val := fun x y => match x, y with
  | .str i, .str j => some (.fr (.bl (if neg then !(!(Builtin.Str.occurrences j i 0 j.length 1).isEmpty) else !(Builtin.Str.occurrences j i 0 j.length 1).isEmpty)))
  | _, _ => none
theorem s_inS {neg : Bool} : OpS c (rInS neg) (gInS neg) := by
  intro O H x y dx dy w Q _ px py e q
  cases dx with
  | str i =>
    cases dy with
    | str j =>
      cases e
      exact ⟨i, j, px, py, q _ H [] (.same (d := .bl _) rfl)⟩
    | _ => cases e
  | _ => cases dy <;> cases e
def gInU (neg : Bool) : D → D → Option Val := fun x y => (gIn neg x y).or (gInS neg x y)
def rInU (K : PySem.W.Frag) (neg : Bool) : R2 := fun x y H Q => rInG K neg x y H Q ∨ rInS neg x y H Q
theorem gInU_bl {neg : Bool} : ∀ dx dy w, gInU neg dx dy = some w → ∃ k, w = .fr (.bl k) := fun dx dy w h => by
  unfold gInU at h
  cases e : gIn neg dx dy with
  | some w' => rw [e] at h; cases h; exact gIn_bl _ _ _ e
  | none =>
    rw [e] at h
    have h : gInS neg dx dy = some w := by simpa using h
    unfold gInS at h
    split at h
    · cases h; exact ⟨_, rfl⟩
    · cases h
theorem opR_or {g : Value → Value → Sem Value} {r r' : R2} (h : OpR X g r) (h' : OpR X g r') : OpR X g (fun x y H Q => r x y H Q ∨ r' x y H Q) := by
  intro pins s σ H x y v u Q I rx ry q
  rcases q with q | q
  · exact h pins s σ H x y v u Q I rx ry q
  · exact h' pins s σ H x y v u Q I rx ry q
theorem c_inU (hr : Room k X.A) (hK : X.K = c.K := by rfl) : CmpG c X .In (rInU c.K false) (gInU false) :=
  ⟨opR_or (c_in hr hK).o op_in_str, opS_or (c_in hr hK).s s_inS, gInU_bl⟩
theorem c_notinU (hr : Room k X.A) (hK : X.K = c.K := by rfl) : CmpG c X .NotIn (rInU c.K true) (gInU true) :=
  ⟨opR_or (c_notin hr hK).o op_notIn_str, opS_or (c_notin hr hK).s s_inS, gInU_bl⟩
end
end Vl

namespace Vl
open PySem PySem.Spec PyProof.Rows L2 He
section
variable {c : Vc} {X : Cx} {W : WX} {b : Bool} {bor vs : List Nat} {O O1 O2 O' : Addr → Prop} {fp fp0 fp1 fp2 fp' fq : List Addr} {H H1 H2 H' : Hp} {ρ ρ1 ρ2 ρ' : Env} {σ σ1 σ' : L2.St} {k i n : Nat} {α β : Type}
variable {e elt tg iter o : Expr} {es ifs : List Expr} {fe fa : FE} {ft : FG Bool} {pos p pos' apos cpos p1 p2 : Pos} {gt : FT} {x : Str} {nm fl : Str} {fs : FG (List Val)}
/-! ### a list comprehension over one's own list -/
theorem lc_at {Dd : Addr} {J : It} {ds : List D} {pr : List D × Env} {Q : V → Hp → Prop} (hx : ∀ v ∈ vs, v ∉ c.xs.map (·.i)) (hgl : GLen gt) (S1 : SR c O1 fp1 H1 ρ1 σ) (Y : Yl c J ds O1 fp1 H1) (hn : ρ1.length ≤ n) (ec : compD vs gt ft fe ds [] (wipeE ρ1 vs) = some pr) (hD : H1 Dd = none)
    (fin : ∀ H' O' fp' vacc, SR c O' fp' H' pr.2 σ → Ext fp1 O1 H1 fp' O' H' → O' Dd → Dd ∉ fp' → H' Dd = some (.lst vacc) → RDs c O' H' pr.1 vacc → Q (.ref Dd) H') :
    ∃ V : Nat → Nat → Hp → Prop, (∃ m, V 0 m (upd H1 Dd (.lst []))) ∧ ∀ i m H, V i m H → (J.stop i H ∧ Q (.ref Dd) H) ∨ (J.go i H ∧ ∃ Nx : Hp → Prop, (∀ H', Nx H' → ∃ m', m' < m ∧ V (i + 1) m' H') ∧ ∀ x H', J.yld i H x H' → cnG c (others n vs) gt x (wipe σ vs) H' fun σ2 H2 => wipe σ2 vs = wipe σ vs ∧ cnT c W0 false ft σ2 H2 fun b H3 =>
      if b = true then cnE c W0 false fe σ2 H3 fun y H4 => ∃ acc, H4 Dd = some (.lst acc) ∧ acc.length < sizeLine ∧ Nx (upd H4 Dd (.lst (acc ++ [y]))) else Nx H3) := by
  have hl : σ.length ≤ n := by rw [S1.rs.len]; exact hn
  have nD : ¬ nT (H1 Dd) := fun q => q.ne hD
  refine ⟨fun i m H' => m = ds.length - i ∧ lcInv c vs gt ft fe σ fp1 O1 H1 Dd ds pr i H', ⟨_, rfl, Nat.zero_le _, ?_⟩, ?_⟩
  · have S2 := S1.grow (g := [Dd]) (H' := upd H1 Dd (.lst [])) (fun b hb => upd_ne fun q => hb (by rw [q]; exact hD)) (fun a ha => by simp at ha; rw [ha]; exact ⟨hD, .of upd_same⟩)
    obtain ⟨fp2, S3, k3⟩ := S2.wip (vs := vs) hx
    have nf : Dd ∉ fp1 := fun q => nD (S1.tr Dd (S1.ow Dd q))
    refine ⟨_, fp2, ρ1, [], [], S3, ⟨fun b hb _ => upd_ne fun q => nD (q ▸ hb), fun b hb => ?_, fun b hb _ => .inl hb, fun b hb => hb.imp id fun q => (by simp at q; rw [q]; exact hD), fun b hb => .inl (k3 b hb)⟩, .inr (by simp), fun q => nf (k3 Dd q), upd_same, (rfl : ([] : List V) = []), ec⟩
    by_cases z : b = Dd
    · rw [z, upd_same]; simp
    · rw [upd_ne z]; exact hb
  · rintro i m H' ⟨rfl, hi, O', fp', ρ0, acc, vacc, S', E', oD, nf, eD, rs, ek⟩
    by_cases hlt : i < ds.length
    · have ed := List.getElem?_eq_getElem hlt
      obtain ⟨go, yl⟩ := Y.go O' fp' H' i _ E' S'.ow S'.tr ed
      refine .inr ⟨go, fun H2 => lcInv c vs gt ft fe σ fp1 O1 H1 Dd ds pr (i + 1) H2, fun H2 q => ⟨ds.length - (i + 1), by omega, rfl, q⟩, fun x H3 y => ?_⟩
      obtain ⟨kp, rd⟩ := yl x H3 y
      have S3 : SR c O' fp' H3 (wipeE ρ0 vs) (wipe σ vs) := ⟨S'.rs.stb (.of (fun a _ h => kp a h.ne) fun a h => .inl h) fun a ha => kp a (S'.tr a (S'.ow a ha)).ne, S'.nd, S'.ow, fun b h => by rw [kp b (S'.tr b h).ne]; exact S'.tr b h, fun P hP => by
        obtain ⟨ps, e, k⟩ := S'.tb P hP
        exact ⟨ps, by rw [kp P (by rw [e]; simp)]; exact e, k⟩, fun p hp => (S'.px p hp).stb (.of (fun a _ h => kp a h.ne) fun a h => .inl h)⟩
      have E3 : Ext fp' O' H' fp' O' H3 := ⟨fun b h _ => kp b h.ne, fun b h => by rw [kp b h]; exact h, fun _ h _ => h, fun _ h => .inl h, fun _ h => .inl h⟩
      rw [List.drop_eq_getElem_cons hlt] at ek
      unfold compD at ek
      cases es : stepC vs gt ft fe ds[i] (wipeE ρ0 vs) with
      | none => rw [es] at ek; cases ek
      | some r =>
        rw [es] at ek
        obtain ⟨ρ1', kb, ρ2, e1, e2, e3⟩ := step_some es
        refine ⟨O', fp', _, _, ρ1', S3, rd, e1, fun σ4 fp4 S4 k4 B4 => ?_⟩
        have hw4 : wipe σ4 vs = wipe σ vs := by
          have l4 : σ4.length = σ.length := by
            have h1 := S4.rs.len
            have h2 := S3.rs.len
            rw [wipe_length] at h2
            have h3 := hgl _ _ _ e1
            omega
          rw [← wipe_wipe (σ := σ)]
          refine wipe_ext (by rw [wipe_length]; exact l4) fun j hj m => B4 j ?_
          rw [wipe_length] at hj
          unfold others
          rw [List.mem_filter, List.mem_range]
          exact ⟨by omega, by simpa using m⟩
        refine ⟨hw4, O', fp4, ρ1', S4, ?_⟩
        rw [e2]
        intro u H4 O4 fp5 g S5 E5 I5 R5 F5
        obtain ⟨rfl, _⟩ := R5
        have E14 : Ext fp1 O1 H1 fp4 O' H3 := E'.trans ⟨E3.kp, E3.th, E3.ok, E3.on, fun a ha => .inl (k4 a ha)⟩ S1.tr
        have E15 := E14.trans E5 S1.tr
        have d3 : H3 Dd = some (.lst vacc) := (kp Dd (by rw [eD]; simp)).trans eD
        have nf4 : Dd ∉ fp4 := fun q => nf (k4 Dd q)
        have d4 : H4 Dd = some (.lst vacc) := (E5.kp Dd (.of d3) nf4).trans d3
        have o4 : O4 Dd := E5.ok Dd oD nf4
        have nf5 : Dd ∉ fp5 := fun q => (E5.fn Dd q).elim nf4 fun z => by rw [d3] at z; cases z
        have rs3 : RDs c O' H3 acc vacc := rs.stb (E3.stb S'.ow)
        have rs4 : RDs c O4 H4 acc vacc := rs3.stb (E5.stb S4.ow)
        rcases e3 with ⟨rfl, w, ρ3, dv, e4, e5, rfl⟩ | ⟨rfl, rfl⟩
        · rw [if_pos rfl]
          refine ⟨O4, fp5, ρ2, S5, ?_⟩
          rw [e4]
          intro y H6 O6 fp6 g6 S6 E6 _ R6 F6
          have d6 : H6 Dd = some (.lst vacc) := (E6.kp Dd (.of d4) nf5).trans d4
          have o6 : O6 Dd := E6.ok Dd o4 nf5
          have nf6 : Dd ∉ fp6 := fun q => (E6.fn Dd q).elim nf5 fun z => by rw [d4] at z; cases z
          have ng6 : Dd ∉ g6 := fun q => (F6 Dd q).elim (fun z => by rw [d4] at z; cases z) nf5
          have rs6 : RDs c O6 H6 acc vacc := rs4.stb (E6.stb S5.ow)
          have RR := R6.rest (O1 := fun a => O6 a ∧ a ∉ g6) e5 (fun a q => q.1) (fun a ha q => q.2 ha)
          have S7 := S6.less fun a ha => (R6.own a ha).2
          have E7 := E15.trans (E6.less S5.tr F6) S1.tr
          have o7 : O6 Dd ∧ Dd ∉ g6 := ⟨o6, ng6⟩
          by_cases hz : szL acc.length = true
          · simp only [if_pos hz] at ek
            refine ⟨vacc, d6, by rw [rs.len]; exact szL_ok hz, ?_⟩
            have S8 := S7.updO (D := Dd) (o := .lst (vacc ++ [y])) o7 nf6 d6 rfl rfl
            obtain ⟨fp9, S9, k9⟩ := S8.wip (vs := vs) hx
            rw [hw4] at S9
            have st : Stb (fun a => O6 a ∧ a ∉ g6) H6 (fun a => O6 a ∧ a ∉ g6) (upd H6 Dd (.lst (vacc ++ [y]))) := upd_stbO (O := fun a => O6 a ∧ a ∉ g6) o7
            have one : RDs c (fun a => O6 a ∧ a ∉ g6) H6 [dv] [y] := ⟨y, [], rfl, RR, (rfl : ([] : List V) = [])⟩
            refine ⟨hlt, _, fp9, ρ3, acc ++ [dv], vacc ++ [y], S9, ⟨fun b hb n => ?_, fun b hb => ?_, E7.ok, E7.on, fun b hb => E7.fn b (k9 b hb)⟩, o7, fun q => nf6 (k9 Dd q), upd_same, ((rs6.stb (.less fun a q => q.1)).app one).stb st, ek⟩
            · have z : b ≠ Dd := fun z => nD (z ▸ hb)
              rw [upd_ne z]; exact E7.kp b hb n
            · by_cases z : b = Dd
              · rw [z, upd_same]; simp
              · rw [upd_ne z]; exact E7.th b hb
          · simp only [if_neg hz] at ek
            cases ek
        · rw [if_neg Bool.false_ne_true]
          obtain ⟨fp9, S9, k9⟩ := S5.wip (vs := vs) hx
          rw [hw4] at S9
          exact ⟨hlt, O4, fp9, ρ2, acc, vacc, S9, ⟨E15.kp, E15.th, E15.ok, E15.on, fun b hb => E15.fn b (k9 b hb)⟩, o4, fun q => nf5 (k9 Dd q), d4, rs4, ek⟩
    · have ei : i = ds.length := by omega
      subst ei
      rw [List.drop_length] at ek
      unfold compD at ek
      cases ek
      exact .inl ⟨Y.stop O' fp' H' E' S'.tr, fin H' O' fp' vacc (S'.back hx wipe_wipe) E' oD nf eD rs⟩
def vLcO (n : Nat) (i : Nat) (vs : List Nat) (gt : FT) (ft : FG Bool) (fe : FE) : FE := fun ρ => match ρ[i]? with
  | some (some (.lst ds)) => if ρ.length ≤ n ∧ i ∉ vs then match compD vs gt ft fe ds [] (wipeE (ρ.set i none) vs) with
    | some q => some (.val (.nw (.lst q.1)) (q.2.set i (some (.lst ds))))
    | none => none
    else none
  | _ => none
theorem ok_lcO (hK : X.K = c.K) (hx : ∀ v ∈ vs, v ∉ c.xs.map (·.i)) (hxi : i ∉ c.xs.map (·.i)) (hgl : GLen gt) : Ok (RV c) c W false (vLcO n i vs gt ft fe) (tLc (iSeq X.K (tVar i)) (cnG c (others n vs) gt) (cnT c W0 false ft) (cnE c W0 false fe) vs) := fun O fp H ρ σ Q S h => by
  unfold vLcO at h
  cases e1 : ρ[i]? with
  | none => rw [e1] at h; exact h.elim
  | some o =>
    rw [e1] at h
    cases o with
    | none => exact h.elim
    | some t =>
      cases t with
      | lst ds =>
        simp only at h
        by_cases hn : ρ.length ≤ n ∧ i ∉ vs
        case neg => rw [if_neg hn] at h; exact h.elim
        rw [if_pos hn] at h
        cases ec : compD vs gt ft fe ds [] (wipeE (ρ.set i none) vs) with
        | none => rw [ec] at h; exact h.elim
        | some pr =>
          rw [ec] at h
          obtain ⟨v, gg, fp0, q1, q2, q3, q4, q5, q6, q7, S0⟩ := hold S hxi e1
          obtain ⟨a, us, ev, ha, rs, eg⟩ := id q2
          have na : a ∉ fp0 := q6 a (by rw [eg]; simp)
          refine ⟨v, q1, .inl ⟨a, ev, ⟨us, sqL_of ha⟩, ?_⟩⟩
          rw [hK]
          intro Dd hD
          refine lc_at hx hgl S0 (yl_own ha na rs S0.ow) (by rw [List.length_set]; exact hn.1) ec hD fun H' O' fp' vacc S' E' oD nD eD rs' => ?_
          have hi : i < pr.2.length := by
            rw [← S'.rs.len]
            exact (List.getElem?_eq_some_iff.mp q1).1
          have R' : RT c O' H' (.lst ds) v gg := q2.stb (E'.stb S0.ow) fun a ha => E'.kp a (S.tr a (q4 a ha)) (q6 a ha)
          obtain ⟨fp3, S3, k3⟩ := S'.put (i := i) (.inr q1) hi R' q3 fun a ha => ⟨E'.ok a (q4 a ha) (q6 a ha), fun z => (E'.fn a z).elim (q6 a ha) (S.tr a (q4 a ha)).ne⟩
          rw [set_same q1] at S3
          have nD3 : Dd ∉ fp3 := fun z => (k3 Dd z).elim nD fun z => (S.tr Dd (q4 Dd z)).ne hD
          refine h (.ref Dd) H' O' fp3 [Dd] S3 ⟨fun b hb n => E'.kp b hb fun z => n (q7 b z), E'.th, fun b hb n => E'.ok b hb fun z => n (q7 b z), E'.on, fun b hb => (k3 b hb).elim (fun z => (E'.fn b z).imp (q7 b) id) fun z => .inl (q5 b z)⟩ (fun q => (by cases q)) ⟨⟨Dd, vacc, rfl, eD, rs', rfl⟩, by simp, fun a ha => ?_⟩ fun a ha => ?_
          · simp at ha; rw [ha]; exact ⟨oD, nD3⟩
          · simp at ha; rw [ha]; exact .inl hD
      | _ => exact h.elim
theorem x_lcO {scope : Scope} {own : List (Str × Nat)} {vs : List Nat} (n : Nat) (i : Nat) (hN : X.N.Nodup) (hv : own.map (·.2) = vs) (ok : blkC X.N X.env.scope scope own = true) (hgl : GLen gt)
    (hg : ∀ (s : Shared) (H : Hp) (C : Addr) (cl : List (Str × Addr)) (fp : List Addr), VG c (X.blk s H scope (compEnvC scope cl C X.env) fp) (others n vs) tg gt)
    (ht : ∀ (s : Shared) (H : Hp) (C : Addr) (cl : List (Str × Addr)) (fp : List Addr), VTs c (X.blk s H scope (compEnvC scope cl C X.env) fp) W0 false ifs ft)
    (he : ∀ (s : Shared) (H : Hp) (C : Addr) (cl : List (Str × Addr)) (fp : List Addr), VE c (X.blk s H scope (compEnvC scope cl C X.env) fp) W0 false elt fe)
    (hK : X.K = c.K := by rfl) (hc : X.calm = true := by rfl) (hN1 : X.N[i]? = some x := by rfl) (hvi : Vis X.env.scope x := by first | exact Or.inl rfl | exact Or.inr (Or.inl rfl) | exact Or.inr (Or.inr rfl)) (hd : (x == ("__debug__" : Str)) = false := by decide)
    (hcd : (x == ("__classdict__" : Str)) = false := by decide) (hxs : ∀ v ∈ vs, v ∉ c.xs.map (·.i) := by exact nmAll rfl) (hxi : i ∉ c.xs.map (·.i) := by exact nmIn rfl) (hs : ∀ y, foldedSetIterable (.Name x p) X.env y = pure y := by intro _; rfl) : VE c X W false (.ListComp elt [⟨tg, .Name x p, ifs, 0⟩] scope pos) (vLcO n i vs gt ft fe) := by
  subst hv
  exact ⟨_, pe_lc hc hN (pi_seq (pv i hN1 hvi hd hcd)) (blkOk_by ok) (fun s H C cl fp => (hg s H C cl fp).cn) ht (fun s H C cl fp => (he s H C cl fp).cn) hs, ok_lcO hK hxs hxi hgl⟩
end
end Vl

namespace Vl
open PySem PySem.Spec PyProof.Rows L2 He
section
variable {c : Vc} {X : Cx} {W : WX} {b : Bool} {bor vs : List Nat} {O O1 O2 O' : Addr → Prop} {fp fp0 fp1 fp2 fp' fq : List Addr} {H H1 H2 H' : Hp} {ρ ρ1 ρ2 ρ' : Env} {σ σ1 σ' : L2.St} {k i n : Nat} {α β : Type}
variable {a e e' o : Expr} {es : List Expr} {fa fb fo : FE} {pos p pos' apos cpos tpos p1 p2 : Pos} {x : Str} {nm fl : Str} {fs : FG (List Val)} {ta tb : TE}
/-! ### x is True -/
def gIsB (neg : Bool) : D → D → Option Val := fun x y => match x, y with
  | .bl j, .bl k => some (.fr (.bl (if neg then !(j == k) else j == k)))
  | _, _ => none
def rIsB (neg : Bool) : R2 := fun x y H Q => ∃ j k, x = .bl j ∧ y = .bl k ∧ Q (.bl (if neg then !(j == k) else j == k)) H
theorem s_isB {neg : Bool} : OpS c (rIsB neg) (gIsB neg) := by
  intro O H x y dx dy w Q _ px py e q
  cases dx with
  | bl i =>
    cases dy with
    | bl j =>
      cases e
      exact ⟨i, j, px, py, q _ H [] (.same (d := .bl _) rfl)⟩
    | _ => cases e
  | _ => cases dy <;> cases e
theorem op_isB : OpR X (compareOp .Is) (rIsB false) := by
  intro pins s σ H x y v u Q I rx ry h
  obtain ⟨j, k, rfl, rfl, q⟩ := h
  cases rx
  cases ry
  have e : compareOp .Is (.bool j) (.bool k) = pure (.bool (j == k)) := by cases j <;> cases k <;> rfl
  exact wpAny_of_eq e ⟨.bl (j == k), H, I, rfl, q⟩
theorem op_isnotB : OpR X (compareOp .IsNot) (rIsB true) := by
  intro pins s σ H x y v u Q I rx ry h
  obtain ⟨j, k, rfl, rfl, q⟩ := h
  cases rx
  cases ry
  have e : compareOp .IsNot (.bool j) (.bool k) = pure (.bool (!(j == k))) := by cases j <;> cases k <;> rfl
  exact wpAny_of_eq e ⟨.bl (!(j == k)), H, I, rfl, q⟩
def gIsU (neg : Bool) : D → D → Option Val := fun x y => (gIsN neg x y).or (gIsB neg x y)
theorem gIsU_bl {neg : Bool} : ∀ dx dy w, gIsU neg dx dy = some w → ∃ k, w = .fr (.bl k) := fun dx dy w h => by
  unfold gIsU at h
  cases e : gIsN neg dx dy with
  | some w' => rw [e] at h; cases h; exact isN_bl _ _ _ e
  | none =>
    rw [e] at h
    have h : gIsB neg dx dy = some w := by simpa using h
    unfold gIsB at h
    split at h
    · cases h; exact ⟨_, rfl⟩
    · cases h
theorem c_isU : CmpG c X .Is (fun x y H Q => (y = .non ∧ Q (.bl (decide (x = .non))) H) ∨ rIsB false x y H Q) (gIsU false) := ⟨opR_or (c_is (c := c) (X := X)).o op_isB, opS_or (c_is (c := c) (X := X)).s s_isB, gIsU_bl⟩
theorem c_isnotU : CmpG c X .IsNot (fun x y H Q => (y = .non ∧ Q (.bl (!decide (x = .non))) H) ∨ rIsB true x y H Q) (gIsU true) := ⟨opR_or (c_isnot (c := c) (X := X)).o op_isnotB, opS_or (c_isnot (c := c) (X := X)).s s_isB, gIsU_bl⟩
/-! ### xs += ys, xs one's own list -/
def kAugL (i : Nat) (w : Val) : FS := fun ρ => match ρ[i]?, vw ρ w with
  | some (some (.lst xs)), some (.lst zs) => if szB (xs.length + zs.length) then some (.nx (ρ.set i (some (.lst (xs ++ zs))))) else none
  | _, _ => none
def sAugL (i : Nat) (fa : FE) : FS := fun ρ => match ρ[i]? with
  | some (some (.lst _)) => exS fa (kAugL i) ρ
  | _ => none
theorem vs_augL (hN : X.N.Nodup) (hx : X.N[i]? = some x) (hl : Loc X.env.scope x) (ha : VE c X W true a fa) (hi : i ∉ bor := by decide) (hxs : i ∉ c.xs.map (·.i) := by exact nmIn rfl)
    (hf : X.fn x = true ∨ X.env.scope.names.lookup x = some .local := by first | exact .inl rfl | exact .inr rfl | assumption) : VS c X W bor (.AugAssign (.Name x p) .Add a pos) (sAugL i fa) := by
  obtain ⟨ta, pa, oa⟩ := ha
  have hp : PIp X .Add rExt2 := fun pins s σ H x y v u Q I r1 r2 h => iop_ext pins s σ H x y v u Q I r1 r2 h
  refine ⟨_, ps_aug hN hx hl pa hp hf, fun O fp H ρ σ D1 S h => ?_⟩
  unfold sAugL at h
  cases e0 : ρ[i]? with
  | none => rw [e0] at h; exact h.elim
  | some o =>
    rw [e0] at h
    cases o with
    | none => exact h.elim
    | some t =>
      cases t with
      | lst xs0 =>
        obtain ⟨v, f0, _, _, h1, h2, _⟩ := S.rs.get e0
        refine ⟨v, h1, oa.stm S.tr S .refl .refl h fun w ρ1 u H1 O1 fp1 g1 S1 E1 E12 I1 R1 F1 h3 => ?_⟩
        unfold kAugL at h3
        cases e1 : ρ1[i]? with
        | none => simp only [e1] at h3; exact h3.elim
        | some o1 =>
          cases ew : vw ρ1 w with
          | none => cases o1 with
            | none => simp only [e1, ew] at h3; exact h3.elim
            | some t1 => cases t1 <;> (simp only [e1, ew] at h3; exact h3.elim)
          | some dz =>
            cases o1 with
            | none => simp only [e1, ew] at h3; exact h3.elim
            | some t1 =>
              cases t1 with
              | lst xs =>
                cases dz with
                | lst zs =>
                  simp only [e1, ew] at h3
                  by_cases hz : szB (xs.length + zs.length) = true
                  · rw [if_pos hz] at h3
                    obtain ⟨f, RR, nf, of, mk⟩ := S1.mut e1 h1
                    obtain ⟨l, us, ev, hl1, rs, ef⟩ := RR
                    subst ev
                    obtain ⟨b1, zs1, eu, hb1, rz⟩ := R1.vw S1 ew
                    refine ⟨l, b1, us, zs1, rfl, eu, hl1, hb1, by rw [rs.len, rz.len]; exact szB_ok hz, ?_⟩
                    obtain ⟨k1, k2, k3, k4⟩ := lst_upd (H := H1) (xs := xs) (ys := xs ++ zs) (vs := us ++ zs1) ef of (rs.app rz)
                    obtain ⟨S2, E2⟩ := mk _ _ k1 k2 k3
                    rw [set_same h1]
                    exact h3 σ _ O1 fp1 S2 (E1.trans E2 S.tr) .refl
                  · rw [if_neg hz] at h3; exact h3.elim
                | _ => simp only [e1, ew] at h3; exact h3.elim
              | _ => cases dz <;> (simp only [e1, ew] at h3; exact h3.elim)
      | _ => exact h.elim
/-! ### x.f += n -/
def kAugF (i : Nat) (nm fl : Str) (g : Int → Int → Int) (w : Val) : FS := fun ρ => match ρ[i]?, w with
  | some (some (.obj n fs)), .fr (.int j) => if n = nm ∧ fs.length < 1000 then match fs.lookup fl with
    | some (.fr (.int d)) => some (.nx (ρ.set i (some (.obj n (putT fl (.fr (.int (g d j))) fs)))))
    | _ => none
    else none
  | _, _ => none
def sAugF (i : Nat) (nm fl : Str) (g : Int → Int → Int) (fa : FE) : FS := fun ρ => match ρ[i]? with
  | some (some (.obj n fs)) => if n = nm then match fs.lookup fl with
    | some (.fr (.int _)) => exS fa (kAugF i nm fl g) ρ
    | _ => none
    else none
  | _ => none
theorem vs_augF {op : Operator} {g : Int → Int → Int} (i : Nat) (hop : InOp X op fun x y H Q => ∃ i j, x = .int i ∧ y = .int j ∧ Q (.int (g i j)) H) (hcl : Cls c.K (c.cl nm)) (hn : NoAttr c.K (c.cl nm) fl) (ha : VE c X W true a fa) (hK : X.K = c.K := by rfl) (hN : X.N[i]? = some x := by rfl) (hv : Vis X.env.scope x := by first | exact Or.inl rfl | exact Or.inr (Or.inl rfl) | exact Or.inr (Or.inr rfl)) (hd : (x == ("__debug__" : Str)) = false := by decide)
    (hcd : (x == ("__classdict__" : Str)) = false := by decide) : VS c X W bor (.AugAssign (.Attribute (.Name x p) fl tpos) op a pos) (sAugF i nm fl g fa) := by
  obtain ⟨ta, pa, oa⟩ := ha
  refine ⟨_, ps_fldaug (pv i hN hv hd hcd) pa hop, fun O fp H ρ σ D1 S h => ?_⟩
  unfold sAugF at h
  cases e0 : ρ[i]? with
  | none => rw [e0] at h; exact h.elim
  | some o =>
    rw [e0] at h
    cases o with
    | none => exact h.elim
    | some t =>
      cases t with
      | obj n fs0 =>
        simp only at h
        by_cases en : n = nm
        · subst en
          rw [if_pos rfl] at h
          cases el : fs0.lookup fl with
          | none => rw [el] at h; exact h.elim
          | some t0 =>
            rw [el] at h
            cases t0 with
            | fr d0 =>
              cases d0 with
              | int m0 =>
                simp only at h
                obtain ⟨a0, dx, us, y0, f0, q1, q2, q3, q4, _⟩ := S.mutF e0 el
                refine ⟨_, q1, a0, _, dx, us, y0, rfl, q2, by rw [hK]; exact hcl, by rw [hK]; exact hn, q3, oa.stm S.tr S .refl .refl h fun w ρ1 u H1 O1 fp1 g1 S1 E1 E12 I1 R1 F1 h3 => ?_⟩
                unfold kAugF at h3
                cases e1 : ρ1[i]? with
                | none => simp only [e1] at h3; exact h3.elim
                | some o1 =>
                  cases o1 with
                  | none => simp only [e1] at h3; exact h3.elim
                  | some t1 =>
                    cases t1 with
                    | obj n1 fs1 =>
                      cases w with
                      | fr dw =>
                        cases dw with
                        | int j =>
                          simp only [e1] at h3
                          by_cases hc1 : n1 = n ∧ fs1.length < 1000
                          · rw [if_pos hc1] at h3
                            obtain ⟨rfl, hlt⟩ := hc1
                            cases el1 : fs1.lookup fl with
                            | none => rw [el1] at h3; exact h3.elim
                            | some t2 =>
                              rw [el1] at h3
                              cases t2 with
                              | fr d2 =>
                                cases d2 with
                                | int m =>
                                  simp only at h3
                                  -- the record as it was
                                  have hk : H1 a0 = some (.ins (c.cl n1) dx us) := (I1 rfl a0 (.of q2)).trans q2
                                  obtain ⟨a1, dx1, us1, y1, f1, w1, w2, w3, w4, _⟩ := S1.mutF e1 el1
                                  have ea : a1 = a0 := by rw [q1] at w1; cases w1; rfl
                                  subst ea
                                  rw [hk] at w2
                                  cases w2
                                  rw [q3] at w3
                                  cases w3
                                  obtain rfl : y0 = .int m := w4.1
                                  obtain rfl : u = .int j := R1.1
                                  refine ⟨m, j, rfl, rfl, ?_⟩
                                  obtain ⟨f, RR, nf, inf, mk⟩ := S1.mut2 e1 q1
                                  obtain ⟨a2, dx2, us2, fq, ev, hp, rf, rfl⟩ := RR
                                  cases ev
                                  rw [hk] at hp
                                  cases hp
                                  obtain ⟨n1', n2'⟩ := List.nodup_cons.mp nf
                                  obtain ⟨fq', x1, x2, x3⟩ := rf.put (fn := fl) (t := .fr (.int (g m j))) (u := .int (g m j)) (g := []) ⟨rfl, rfl⟩ .nil n2' (fun _ q => (by cases q))
                                  have po : O1 a1 := S1.ow a1 (inf a1 (by simp))
                                  have st : Stb O1 H1 O1 (upd H1 a1 (.ins (c.cl n1) dx (putF fl (.int (g m j)) us))) := .of (fun y nn _ => upd_ne fun q => nn (q ▸ po)) fun y h => .inl h
                                  have pq : a1 ∉ fq' := fun q => (x3 a1 q).elim n1' fun q => (by cases q)
                                  have sub : ∀ y ∈ fq', y ∈ fq := fun y hy => (x3 y hy).elim id fun q => (by cases q)
                                  obtain ⟨fp3, S3, m1, m2, m3⟩ := mk (upd H1 a1 (.ins (c.cl n1) dx (putF fl (.int (g m j)) us))) (.obj n1 (putT fl (.fr (.int (g m j))) fs1)) (a1 :: fq') (List.nodup_cons.mpr ⟨pq, x2⟩) (fun y hy => .inl (by
                                    rcases List.mem_cons.mp hy with q | q
                                    · rw [q]; simp
                                    · exact List.mem_cons_of_mem _ (sub y q))) (fun y hy => upd_ne fun q => hy (by rw [q]; simp)) (fun y hy => by
                                    by_cases z : y = a1
                                    · rw [z]; exact .of upd_same
                                    · rw [upd_ne z]; exact S1.tr y (S1.ow y (inf y hy)))
                                    ⟨a1, dx, _, fq', rfl, upd_same, x1.stb st fun y hy => upd_ne fun q => pq (q ▸ hy), rfl⟩
                                  refine ⟨dx, us, hk, by rw [rf.len]; exact hlt, ?_⟩
                                  exact h3 σ _ O1 fp3 S3 ⟨fun y hy nn => (m1 y (by
                                      have := E1.kp y hy nn
                                      rw [this]; exact hy) fun z => (E1.fn y z).elim nn hy.ne).trans (E1.kp y hy nn), fun y hy => m2 y (E1.th y hy), E1.ok, E1.on, fun y hy => (m3 y hy).elim (E1.fn y) fun z => by
                                      rcases List.mem_cons.mp z with q | q
                                      · exact E1.fn y (inf y (by rw [q]; simp))
                                      · exact E1.fn y (inf y (List.mem_cons_of_mem _ (sub y q)))⟩ .refl
                                | _ => exact h3.elim
                              | _ => exact h3.elim
                          · rw [if_neg hc1] at h3; exact h3.elim
                        | _ => simp only [e1] at h3; exact h3.elim
                      | _ => simp only [e1] at h3; exact h3.elim
                    | _ => simp only [e1] at h3; exact h3.elim
              | _ => exact h.elim
            | _ => exact h.elim
        · rw [if_neg en] at h; exact h.elim
      | _ => exact h.elim
end
end Vl

namespace Vl
open PySem PySem.Spec PyProof.Rows L2 He
section
variable {c : Vc} {X : Cx} {W : WX} {b : Bool} {bor vs : List Nat} {O O1 O2 O' : Addr → Prop} {fp fp0 fp1 fp2 fp' fq : List Addr} {H H1 H2 H' : Hp} {ρ ρ1 ρ2 ρ' : Env} {σ σ1 σ' : L2.St} {k i n : Nat} {α β : Type}
variable {a e e' o : Expr} {es : List Expr} {fa fb fo fe : FE} {pos p pos' apos cpos tpos p1 p2 : Pos} {x nm fl cn : Str} {fs : FG (List Val)} {ta tb : TE}
/-! ### a new list's method: the list is dropped -/
def kMuT (g : T → List D → Option (D × T)) (x : Val) (ws : List Val) : FE := fun ρ => match x, fzs ws with
  | .nw (.lst xs), some ds => match g (.lst xs) ds with
    | some (w, _) => some (.val (.fr w) ρ)
    | none => none
  | _, _ => none
def isNwL : Val → Bool
  | .nw (.lst _) => true
  | _ => false
def vMuT (g : T → List D → Option (D × T)) (fo : FE) (fs : FG (List Val)) : FE := bnd fo fun x => if isNwL x then bnd fs fun ws => kMuT g x ws else fun _ => none
theorem ve_muT {m : Str} {id : String} {r : V → List V → Hp → VK → Prop} {g : T → List D → Option (D × T)} (slot : Slot "list" m id) (hty : typeOf (.builtin id) = pure (.type "method_descriptor")) (hm : MtR X id r) (hr : MuS c r g)
    (ho : VE c X W false o fo) (ha : VA c X W false (e :: es) fs)
    (hbase : attributeBase o m X.env (eval o X.env) = eval o X.env := by rfl)
    (hfew : ((backTo cpos (starEach (e :: es) X.env)).all (fun x => !x.1) && (backToKw cpos (keywordEach [] X.env)).all (fun x => x.1.isSome)
      && decide ((e :: es).length + ([] : List Keyword).length + (if ([] : List Keyword).isEmpty then 0 else 1) < 30)) = true := by rfl)
    (hline : (apos.endLine == cpos.line) = true := by rfl) (hs : starEach (e :: es) X.env = (false, eval e X.env) :: starEach es X.env := by rfl) (hplain : (backTo cpos (starEach es X.env)).any (·.1) = false := by rfl) :
    VE c X W false (.Call (.Attribute o m apos) (e :: es) [] cpos) (vMuT g fo fs) := by
  obtain ⟨ta, pa, oa⟩ := ho
  obtain ⟨ts, ps, os⟩ := ha
  refine ⟨_, pe_bm PySem.F.plainAttrs_list slot hty hm pa ps hbase hfew hline hs hplain, fun O fp H ρ σ Q S h => oa.thn S.tr S .refl (fun _ => .refl) h (fun q => q) fun x ρ1 u H1 O1 fp1 g1 ex S1 E1 _ I1 R1 F1 h1 => ?_⟩
  by_cases hi : isNwL x = true
  case neg => rw [if_neg hi] at h1; exact h1.elim
  rw [if_pos hi] at h1
  obtain ⟨xs, rfl⟩ : ∃ xs, x = .nw (.lst xs) := by
    unfold isNwL at hi
    split at hi
    · exact ⟨_, rfl⟩
    · cases hi
  obtain ⟨l0, us0, eu0, hl0, _⟩ := R1.1
  subst eu0
  refine ⟨.inl ⟨rfl, us0, sqL_of hl0⟩, os.thn S.tr S1 E1 I1 h1 (fun q => q) fun ws ρ2 us H2 O2 fp2 g2 _ S2 E2 E12 I2 R2 F2 h2 => ?_⟩
  have R1' := R1.per (ρ1 := ρ2) S1 E12
  unfold kMuT at h2
  cases ez : fzs ws with
  | none => simp only [ez] at h2; exact h2.elim
  | some ds =>
    simp only [ez] at h2
    cases eg : g (.lst xs) ds with
    | none => rw [eg] at h2; exact h2.elim
    | some r2 =>
      obtain ⟨w, t'⟩ := r2
      rw [eg] at h2
      obtain ⟨RT1, nd1, own1⟩ := R1'
      have g12 : ∀ a ∈ g1, a ∉ g2 := fun a h1 h2 => (F2 a h2).elim (R1.trk a h1).ne (R1.own a h1).2
      have S3 := S2.less fun a ha => (R2.own a ha).2
      have E3 := E2.less S.tr (fresh_of E1 F2)
      have RR := R2.rest (O1 := fun a => O2 a ∧ a ∉ g2) ez (fun a q => q.1) (fun a ha q => q.2 ha)
      have RT3 : RT c (fun a => O2 a ∧ a ∉ g2) H2 (.lst xs) (.ref l0) g1 := RT1.stb (.less fun a q => q.1) fun _ _ => rfl
      refine hr _ H2 _ us _ ds w t' g1 Q RT3 nd1 (fun a ha => ⟨(own1 a ha).1, g12 a ha⟩) RR eg fun v H5 k1 k2 k3 k4 => ?_
      have st : Stb (fun a => O2 a ∧ a ∉ g2) H2 (fun a => O2 a ∧ a ∉ g2) H5 := .of (fun a nn _ => k1 a fun z => nn ⟨(own1 a z).1, g12 a z⟩) fun a h => .inl h
      have S5 : SR c (fun a => O2 a ∧ a ∉ g2) fp2 H5 ρ2 σ := ⟨S3.rs.stb st fun a ha => k1 a fun z => (own1 a z).2 ha, S3.nd, S3.ow, fun b hb => by
        by_cases z : b ∈ g1
        · exact k2 b z
        · rw [k1 b z]; exact S3.tr b hb, fun P hP => by
        obtain ⟨ps, e1, e2⟩ := S3.tb P hP
        have z : P ∉ g1 := fun z => by
          obtain ⟨u, q1, q2⟩ := R1.per (ρ1 := ρ2) S1 E12 |>.trk P z
          rw [e1] at q1
          cases q1
          cases q2
        exact ⟨ps, by rw [k1 P z]; exact e1, e2⟩, fun p hp => (S3.px p hp).stb st⟩
      have F1' : ∀ b ∈ g1, H b = none ∨ b ∈ fp := F1
      refine h2 v H5 _ fp2 [] S5 ⟨fun b hb nn => (k1 b fun z => (F1' b z).elim hb.ne nn).trans (E3.kp b hb nn), fun b hb => ?_, E3.ok, E3.on, E3.fn⟩ (fun q => (by cases q)) ⟨k4, rfl⟩ fun _ q => (by cases q)
      by_cases z : b ∈ g1
      · exact (k2 b z).ne
      · rw [k1 b z]; exact E3.th b hb
/-! ### raise, isinstance, e.f of own exceptions -/
theorem x_raiseX {flds : List (Str × Nat)} (Xo : XOk X.prog X.w c.toVb X.mg X.base k nm flds fe n) (hr : Room (k + 1) X.A) (tk : Takes X W) (hm : X.mg nm = some (.ref (c.cl nm))) (ha : VA c X W false (e :: es) fs) (hK : X.K = c.K := by rfl) (hc : X.calm = true := by rfl) (hg : Gl X nm := by rfl) (hdb : (nm == ("__debug__" : Str)) = false := by decide)
    (he : starEach (e :: es) X.env = (false, eval e X.env) :: starEach es X.env := by rfl) (hpl : (backTo pos (starEach es X.env)).any (·.1) = false := by rfl) : VS c X W bor (.Raise (some (.Call (.Name nm p) (e :: es) [] pos)) none pos') (sRaiseX nm flds fe n fs) :=
  vs_raiseX Xo hK hc hr tk (fun pins σ H s e s' I cc => passAt takes_W0 σ pins H s e s' I cc) hm ha hg hdb he hpl
variable {a' : Addr} {oe : Obj} {d : Option Addr} {q : Option (Addr × List (Str × V) × List (Str × D))} {pn : List (Addr × Obj)} {y : Exn} {xn : Str}
theorem x_isXg {g : Str → Option Bool} (hz : Zc (.ref (c.cl y.n)) d oe) (hf : ∃ vs, oe.data = .fields vs) (h1 : ∀ l, q = some l → d = some l.1 ∧ l.2.2 = y.fs ∧ y.fs ≠ []) (h2 : q = none → y.fs = [] ∧ d = none) (hm : X.mg cn = some (.ref (c.cl cn))) (gm : X.mg "isinstance" = none)
    (hg : ∀ n b, g n = some b → ExcC c.K (c.cl n) ∧ PySem.W.kitOne c.K (.ref (c.cl n)) (.ref (c.cl cn)) = some b) (hK : X.K = c.K := by rfl) (hN : X.N[i]? = some xn := by rfl) (hv : Vis X.env.scope xn := by first | exact Or.inl rfl | exact Or.inr (Or.inl rfl)) (gl : Gl X "isinstance" := by rfl) (gc : Gl X cn := by rfl)
    (hd : (xn == ("__debug__" : Str)) = false := by decide) (hcd : (xn == ("__classdict__" : Str)) = false := by decide) (hdc : (cn == ("__debug__" : Str)) = false := by decide)
    (he : starEach [.Name xn p1, .Name cn p2] X.env = (false, eval (.Name xn p1) X.env) :: starEach [.Name cn p2] X.env := by rfl) (he2 : starEach [.Name cn p2] X.env = (false, eval (.Name cn p2) X.env) :: starEach [] X.env := by rfl) (hpl : (backTo pos (starEach [.Name cn p2] X.env)).any (·.1) = false := by rfl) :
    VE ⟨c.toVb, ⟨i, a', q⟩ :: c.xs⟩ (X.suite a' ((a', oe) :: pn)) W b (.Call (.Name "isinstance" p) [.Name xn p1, .Name cn p2] [] pos) (vIsX g y) :=
  ve_isX hK hz hf h1 h2 hN hv (pe_glob (X := X.suite a' ((a', oe) :: pn)) gc hm (u := .ref (c.cl cn)) (v := .ref (c.cl cn)) rfl hdc) (fun w r => r) hg gl gm bt_isi hd hcd he he2 hpl
theorem x_isXt {g : Str → Option Bool} {T : String} (hz : Zc (.ref (c.cl y.n)) d oe) (hf : ∃ vs, oe.data = .fields vs) (h1 : ∀ l, q = some l → d = some l.1 ∧ l.2.2 = y.fs ∧ y.fs ≠ []) (h2 : q = none → y.fs = [] ∧ d = none) (hm : X.mg cn = none) (gm : X.mg "isinstance" = none) (hbt : bootBuiltins cn = some (.type T))
    (hg : ∀ n b, g n = some b → ExcC c.K (c.cl n) ∧ PySem.W.kitOne c.K (.ref (c.cl n)) (.type T) = some b) (hK : X.K = c.K := by rfl) (hN : X.N[i]? = some xn := by rfl) (hv : Vis X.env.scope xn := by first | exact Or.inl rfl | exact Or.inr (Or.inl rfl)) (gl : Gl X "isinstance" := by rfl) (gc : Gl X cn := by rfl)
    (hd : (xn == ("__debug__" : Str)) = false := by decide) (hcd : (xn == ("__classdict__" : Str)) = false := by decide) (hdc : (cn == ("__debug__" : Str)) = false := by decide) (hnn : cn ≠ "__name__" := by decide)
    (he : starEach [.Name xn p1, .Name cn p2] X.env = (false, eval (.Name xn p1) X.env) :: starEach [.Name cn p2] X.env := by rfl) (he2 : starEach [.Name cn p2] X.env = (false, eval (.Name cn p2) X.env) :: starEach [] X.env := by rfl) (hpl : (backTo pos (starEach [.Name cn p2] X.env)).any (·.1) = false := by rfl) :
    VE ⟨c.toVb, ⟨i, a', q⟩ :: c.xs⟩ (X.suite a' ((a', oe) :: pn)) W b (.Call (.Name "isinstance" p) [.Name xn p1, .Name cn p2] [] pos) (vIsX g y) :=
  ve_isX hK hz hf h1 h2 hN hv (pe_bltn (X := X.suite a' ((a', oe) :: pn)) (v := .ty T) gc hm hbt rfl hnn hdc) (fun w r => r) hg gl gm bt_isi hd hcd he he2 hpl
end
end Vl

namespace Vl
open PySem PySem.Spec PyProof.Rows L2 He
section
variable {c : Vc} {X : Cx} {W : WX} {b : Bool} {bor vs : List Nat} {O O1 O2 O' : Addr → Prop} {fp fp0 fp1 fp2 fp' fq : List Addr} {H H1 H2 H' : Hp} {ρ ρ1 ρ2 ρ' : Env} {σ σ1 σ' : L2.St} {k i n : Nat} {α β : Type} {D1 : Ends}
variable {a e e' o tg iter : Expr} {es : List Expr} {fa fb fo fi : FE} {fs : FG (List Val)} {gt : FT} {pos p pos' apos cpos p1 p2 : Pos} {x : Str} {nm fl : Str} {st : Stmt}
/-! ### what is never reached -/
def vBot : FE := fun _ => none
def sBot : FS := fun _ => none
theorem ve_bot : VE c X W b e vBot := ⟨fun _ _ _ => False, ⟨fun _ _ _ _ _ _ z => z.elim⟩, fun _ _ _ _ _ _ _ z => z⟩
theorem vs_bot : VS c X W bor st sBot := ⟨fun _ _ _ => False, ⟨fun _ _ _ _ _ _ z => z.elim⟩, fun _ _ _ _ _ _ _ z => z⟩
theorem vi_bot : VI c X W tg iter (fun _ => none) := ⟨fun _ _ _ => False, ⟨fun _ _ _ _ _ _ z => z.elim⟩, fun _ _ _ _ _ _ _ z => z⟩
/-! ### slices of lists, tuples and texts -/
def gCutS (dx : D) (lo hi : Option Int) : Option Val := match dx with
  | .str z => if szB z.length then some (.fr (.str (cutS z lo hi))) else none
  | _ => none
theorem s_cutS : SlS c rSlS gCutS := fun O H x dx lo hi w Q tr px e k => by
  cases dx with
  | str z =>
    unfold gCutS at e
    dsimp only at e
    split at e
    · rename_i q
      cases e
      exact ⟨z, px, szB_ok q, k _ H [] (.same (d := .str _) rfl)⟩
    · cases e
  | _ => cases e
/-- a part of a tuple, not the whole -/
def gCutP (dx : D) (lo hi : Option Int) : Option Val := match dx with
  | .tup xs => if HT.sIx xs.length 0 lo = 0 ∧ HT.sIx xs.length xs.length hi = xs.length then none else some (.fr (.tup (cutD xs lo hi)))
  | _ => none
theorem s_cutP : SlS c (rSlT c.K) gCutP := fun O H x dx lo hi w Q tr px e k => by
  cases dx with
  | tup xs =>
    unfold gCutP at e
    dsimp only at e
    split at e
    · cases e
    · rename_i q
      cases e
      obtain ⟨t, us, et, ht, rt⟩ := px
      exact ⟨t, us, et, sqT_of ht.1, by rw [rt.len]; exact q, fun l hl => k _ _ _ (.tup hl tr (rt.cut lo hi))⟩
  | _ => cases e
theorem sl_or {r r' : V → Option Int → Option Int → Hp → VK → Prop} (h : SlR X r) (h' : SlR X r') : SlR X (fun x lo hi H Q => r x lo hi H Q ∨ r' x lo hi H Q) := by
  intro pins s σ H x v vl vu lo hi sl Q q1 q2 q3 q4 q5 q6
  rcases q6 with z | z
  · exact h pins s σ H x v vl vu lo hi sl Q q1 q2 q3 q4 q5 z
  · exact h' pins s σ H x v vl vu lo hi sl Q q1 q2 q3 q4 q5 z
theorem sls_or {r r' : V → Option Int → Option Int → Hp → VK → Prop} {g g' : D → Option Int → Option Int → Option Val} (h : SlS c r g) (h' : SlS c r' g') : SlS c (fun x lo hi H Q => r x lo hi H Q ∨ r' x lo hi H Q) (fun d lo hi => (g d lo hi).or (g' d lo hi)) := fun O H x dx lo hi w Q tr px e k => by
  cases q : g dx lo hi with
  | some w' =>
    have e : (g dx lo hi).or (g' dx lo hi) = some w := e
    rw [q] at e
    cases e
    exact .inl (h O H x dx lo hi _ Q tr px q k)
  | none =>
    have e : (g dx lo hi).or (g' dx lo hi) = some w := e
    rw [q] at e
    exact .inr (h' O H x dx lo hi w Q tr px (by simpa using e) k)
def gCutU : D → Option Int → Option Int → Option Val := fun d lo hi => ((gCutL d lo hi).or (gCutP d lo hi)).or (gCutS d lo hi)
theorem x_cutU {lo hi : Option Expr} {fl fh : FO} (ha : VE c X W b a fa) (hl : VO c X W b lo fl) (hh : VO c X W b hi fh) (hK : X.K = c.K := by rfl) : VE c X W b (.Subscript a (.Slice lo hi none p2) pos) (vSl gCutU fa fl fh) :=
  ve_slice (r := fun x lo hi H Q => (rSlL c.K x lo hi H Q ∨ rSlT c.K x lo hi H Q) ∨ rSlS x lo hi H Q) (by rw [← hK]; exact sl_or (sl_or sl_list sl_tup) sl_str) (sls_or (sls_or s_cutL s_cutP) s_cutS) ha hl hh
/-! ### len, list of more things -/
theorem cal_or {u : Value} {r r' : List V → Hp → VK → Prop} (h : CallR X u r) (h' : CallR X u r') : CallR X u (fun xs H Q => r xs H Q ∨ r' xs H Q) := by
  intro pins s σ H xs us Q q1 q2 q3
  rcases q3 with z | z
  · exact h pins s σ H xs us Q q1 q2 z
  · exact h' pins s σ H xs us Q q1 q2 z
theorem cas_or {r r' : List V → Hp → VK → Prop} {g g' : List D → Option Val} (h : CaS c r g) (h' : CaS c r' g') : CaS c (fun xs H Q => r xs H Q ∨ r' xs H Q) (fun ds => (g ds).or (g' ds)) := fun O H us ds w Q tr p e k => by
  cases q : g ds with
  | some w' =>
    have e : (g ds).or (g' ds) = some w := e
    rw [q] at e
    cases e
    exact .inl (h O H us ds _ Q tr p q k)
  | none =>
    have e : (g ds).or (g' ds) = some w := e
    rw [q] at e
    exact .inr (h' O H us ds w Q tr p (by simpa using e) k)
def gListU : List D → Option Val := fun ds => (gList ds).or (gListD ds)
theorem x_listU (hm : X.mg "list" = none) (ha : VA c X W b [e] fs) (hg : Gl X "list" := by rfl) (hc : X.calm = true := by rfl) (hK : X.K = c.K := by rfl) (he : starEach (e :: []) X.env = (false, eval e X.env) :: starEach [] X.env := by rfl) : VE c X W b (.Call (.Name "list" p) [e] [] pos) (vCall gListU fs) :=
  ve_callT (cal_or (by rw [show c.K = X.K from hK.symm]; exact call_list_of) (call_listD hc)) (cas_or s_list s_listD) hg hm boot_list ha (by decide) (by decide) he
/-! ### x.pop(), [..].append(x) -/
theorem x_pop (ho : VE c X W false o fo) (hbase : attributeBase o "pop" X.env (eval o X.env) = eval o X.env := by rfl) (hline : (apos.endLine == cpos.line) = true := by rfl) : VE c X W false (.Call (.Attribute o "pop" apos) [] [] cpos) (vMu muPop fo vNil) :=
  ve_mu0 PySem.F.slot_list_pop PySem.F.type_list_pop mt_pop s_pop ho hbase hline
end
end Vl

namespace Vl
open PySem PySem.Spec PyProof.Rows L2 He
/-! ### in order -/
def insZ (i : Int) : List Int → List Int
  | [] => [i]
  | j :: r => if i ≤ j then i :: j :: r else j :: insZ i r
def srtZ : List Int → List Int
  | [] => []
  | i :: r => insZ i (srtZ r)
theorem insZ_perm {i : Int} : ∀ {l : List Int}, (insZ i l).Perm (i :: l)
  | [] => .refl _
  | j :: r => by
    unfold insZ
    split
    · exact .refl _
    · exact ((insZ_perm (l := r)).cons j).trans (.swap i j r)
theorem srtZ_perm : ∀ {l : List Int}, (srtZ l).Perm l
  | [] => .refl _
  | i :: r => by
    unfold srtZ
    exact insZ_perm.trans ((srtZ_perm (l := r)).cons i)
theorem insZ_up {i : Int} : ∀ {l : List Int}, l.Pairwise (· ≤ ·) → (insZ i l).Pairwise (· ≤ ·)
  | [], _ => by simp [insZ]
  | j :: r, h => by
    unfold insZ
    rw [List.pairwise_cons] at h
    split
    · rename_i q
      refine List.pairwise_cons.mpr ⟨fun y hy => ?_, List.pairwise_cons.mpr h⟩
      rcases List.mem_cons.mp hy with z | z
      · rw [z]; exact q
      · exact Int.le_trans q (h.1 y z)
    · rename_i q
      refine List.pairwise_cons.mpr ⟨fun y hy => ?_, insZ_up h.2⟩
      rcases List.mem_cons.mp (insZ_perm.mem_iff.mp hy) with z | z
      · rw [z]; omega
      · exact h.1 y z
theorem srtZ_up : ∀ {l : List Int}, (srtZ l).Pairwise (· ≤ ·)
  | [] => .nil
  | i :: r => by unfold srtZ; exact insZ_up srtZ_up
theorem up_eq : ∀ {l m : List Int}, l.Perm m → l.Pairwise (· ≤ ·) → m.Pairwise (· ≤ ·) → l = m
  | [], m, p, _, _ => by rw [List.Perm.eq_nil p.symm]
  | i :: l, [], p, _, _ => by
    have := p.length_eq
    simp at this
  | i :: l, j :: m, p, h1, h2 => by
    rw [List.pairwise_cons] at h1 h2
    have a1 : i ≤ j := by
      rcases List.mem_cons.mp (p.mem_iff.mpr (List.mem_cons_self (a := j))) with z | z
      · omega
      · exact h1.1 j z
    have a2 : j ≤ i := by
      rcases List.mem_cons.mp (p.mem_iff.mp (List.mem_cons_self (a := i))) with z | z
      · omega
      · exact h2.1 i z
    have e : i = j := by omega
    subst e
    rw [up_eq (List.Perm.cons_inv p) h1.2 h2.2]
theorem srtZ_of {l m : List Int} (p : m.Perm l) (h : m.Pairwise (· ≤ ·)) : m = srtZ l := up_eq (p.trans srtZ_perm.symm) h srtZ_up
section
variable {c : Vc} {X : Cx} {W : WX} {b : Bool} {bor vs : List Nat} {O O1 O2 O' : Addr → Prop} {fp fp0 fp1 fp2 fp' fq : List Addr} {H H1 H2 H' : Hp} {ρ ρ1 ρ2 ρ' : Env} {σ σ1 σ' : L2.St} {k i n : Nat} {α β : Type} {D1 : Ends}
variable {a e e' o tg iter : Expr} {es : List Expr} {fa fb fo fi : FE} {fs : FG (List Val)} {gt : FT} {pos p pos' apos cpos p1 p2 : Pos} {x : Str} {nm fl : Str} {st : Stmt}
/-! ### sorted(d) of a dict with int keys, sorted(xs) of ints: any number -/
theorem cal_srtDI (hcalm : X.calm = true) : CallR X (.builtin "sorted") (fun xs H Q => ∃ (d : Addr) (kvs : List (Key × V)) (ks : List Int), xs = [.ref d] ∧ Rd H d (.dK kvs) ∧ kvs.map (·.1) = ks.map Sum.inl ∧ ks.length ≤ sizeLine ∧
    ∀ (l : Addr), H l = none → Q (.ref l) (upd H l (.lst ((srtZ ks).map V.int)))) := by
  intro pins s σ H args us Q J rr qq
  obtain ⟨d, kvs, ks, ex, hd, hks, hz, fin⟩ := qq
  subst ex
  obtain ⟨u, eu, ru⟩ := vals1 rr
  subst eu
  cases ru
  obtain ⟨z0, lo, ms, rel, dd⟩ := dk_rd J.hok hd
  obtain ⟨ep, hat⟩ := dd.dictAt
  have hkeys : ms.map (·.1) = ks.map Sum.inl := rel.keys.symm.trans hks
  have hl : ms.length = ks.length := by
    have q := congrArg List.length hkeys
    simpa using q
  refine Calls.call_function_entry PyProof.Rows.kind_sorted PyProof.Rows.plain_sorted PyProof.Rows.entry_sorted (PyProof.Rows.args_sorted1 _) ?_
  unfold Builtin.«sorted»
  refine wpAny_bind (m := checkCount "sorted" 1 1 _) (wpAny_pure ?_)
  refine wpAny_bind (PySem.W.kdu_collect (A := X.A.in1) (PySem.W.kdl_dict (knd := mixKind X.prog X.w) (kvs := ms) (ep := ep) lo) (J.ok.hd hcalm) hat (by rw [hl]; exact hz) fun h' tk got hk hgot => ?_)
  have lg : got.toList.length = ks.length := by rw [Array.length_toList, hgot.1, hl]
  have are : IntsAre got.toList ks := ints_each lg fun j v ev => by
    obtain ⟨k, x, e1, e2⟩ := hgot.2 j v (by rw [← Array.getElem?_toList]; exact ev)
    have e3 : (ms.map (·.1))[j]? = some k := by simp [e1]
    rw [hkeys, List.getElem?_map] at e3
    cases e4 : ks[j]? with
    | none => rw [e4] at e3; cases e3
    | some y =>
      rw [e4] at e3
      cases e3
      rcases keyIs_shape (show keyIs (Sum.inl y) v = true from e2) with ⟨i, t, ek, ev⟩ | ⟨z, t, ek, ev⟩
      · cases ek
        exact ⟨y, t, rfl, ev⟩
      · cases ek
  have J1 : Inv X pins σ H { s with heap := h', toks := tk } := J.kept hk
  refine wpAny_bind (wpAny_newList ?_ (by rw [lg]; exact hz))
  have hoL : (h'.push (seqObj "list" got.toList.toArray 0)).get? h'.objs.size = some (seqObj "list" got.toList.toArray 0) := Heap.get?_push_size _ rfl
  show wpAny _ _ _ _ _ { s with heap := h'.push (seqObj "list" got.toList.toArray 0), toks := tk }
  refine wpAny_bind (wpAny_holding (wpAny_call_entry PyProof.Rows.slot_list_sort ⟨_, hoL, rfl⟩ PyProof.Rows.entry_list_sort
    (SrtO.list_sort_ord (s := { s with heap := h'.push (seqObj "list" got.toList.toArray 0), toks := tk }) SrtO.swo_int hoL (by rw [lg]; exact hz) (fun h2 => SrtO.ints_sortable are h2) fun out h1 h2 => ⟨_, rfl, ?_⟩) (PyProof.Rows.args_list_sort _)))
  obtain ⟨k1, k2, k3⟩ := SrtO.ints_out are h1 h2
  obtain ⟨e', he'⟩ := PyProof.Rows.sortedHeap_at (vs := got.toList) (out := out.toArray) hoL
  have eo : out.map SrtO.iv = srtZ ks := srtZ_of k2 k3
  have hlen : ((out.map SrtO.iv).map V.int).length ≤ sizeLine := by
    rw [List.length_map, k2.length_eq]
    exact hz
  refine wpAny_pure ⟨_, rfl, .ref h'.objs.size, upd H h'.objs.size (.lst ((out.map SrtO.iv).map V.int)), J1.laid (t' := tk) (fun b u eb => ?_) (Nat.le_refl _)
    (show ObjOk X.prog X.w _ _ _ (.lst ((out.map SrtO.iv).map V.int)) from ⟨hlen, out, e', vals_of_ints k1, he'⟩), rfl, by rw [eo]; exact fin _ (J1.hok.fresh (Nat.le_refl _))⟩
  have hb : b < h'.objs.size := Heap.lt_size eb
  rw [PyProof.Rows.sortedHeap_old (Nat.ne_of_lt hb) (by rw [size_push']; exact Nat.lt_succ_of_lt hb)]
  exact Heap.get?_push_of_some _ eb
def intsD : List D → Option (List Int)
  | [] => some []
  | .int i :: r => (intsD r).map (i :: ·)
  | _ => none
theorem intsD_ok {c : Vb} : ∀ {ds : List D} {vs : List V} {is : List Int}, RDs c O H ds vs → intsD ds = some is → vs = is.map V.int
  | [], _, _, h, e => by cases e; exact h
  | d :: ds, _, bs, ⟨v, r, ev, h, t⟩, e => by
    cases d with
    | int b =>
      obtain ⟨l, e1, e2⟩ := Option.map_eq_some_iff.mp (show (intsD ds).map (b :: ·) = some bs from e)
      subst e2
      rw [ev, intsD_ok t e1, show v = .int b from h]
      rfl
    | _ => cases e
theorem RDs.intsI {is : List Int} : RDs c O H (is.map D.int) (is.map V.int) := by
  induction is with
  | nil => exact (rfl : ([] : List V) = [])
  | cons i r ih => exact ⟨.int i, _, rfl, rfl, ih⟩
def keysI {α : Type} : List (Key × α) → Option (List Int)
  | [] => some []
  | (.inl i, _) :: r => (keysI r).map (i :: ·)
  | _ => none
theorem keysI_ok {α : Type} : ∀ {kvs : List (Key × α)} {ks : List Int}, keysI kvs = some ks → kvs.map (·.1) = ks.map Sum.inl
  | [], _, e => by cases e; rfl
  | (.inl i, _) :: r, ks, e => by
    obtain ⟨l, e1, e2⟩ := Option.map_eq_some_iff.mp (show (keysI r).map (i :: ·) = some ks from e)
    subst e2
    simp [keysI_ok e1]
  | (.inr _, _) :: r, ks, e => by cases e
def rSrt (K : PySem.W.Frag) : List V → Hp → VK → Prop := fun xs H Q => (∃ (d : Addr) (kvs : List (Key × V)) (ks : List Int), xs = [.ref d] ∧ Rd H d (.dK kvs) ∧ kvs.map (·.1) = ks.map Sum.inl ∧ ks.length ≤ sizeLine ∧
    ∀ (l : Addr), H l = none → Q (.ref l) (upd H l (.lst ((srtZ ks).map V.int)))) ∨ rSortedI K xs H Q
def gSorted : List D → Option Val
  | [.dK kvs] => (keysI kvs).bind fun ks => if szB ks.length then some (.nw (.lst ((srtZ ks).map D.int))) else none
  | [.lst ds] => (intsD ds).map fun is => .nw (.lst ((srtZ is).map D.int))
  | [.klst ds] => (intsD ds).map fun is => .nw (.lst ((srtZ is).map D.int))
  | _ => none
theorem s_sorted : CaS c (rSrt c.K) gSorted := fun O H vs ds w Q tr p e k => by
  unfold gSorted at e
  split at e
  · obtain ⟨ks, e1, e2⟩ := Option.bind_eq_some_iff.mp e
    split at e2
    · rename_i hz
      cases e2
      obtain ⟨v, rfl, px⟩ := pks1 p
      obtain ⟨q, us, rfl, ha, ra⟩ := dk_get px
      exact .inl ⟨q, us, ks, rfl, ha, by rw [ra.keys]; exact keysI_ok e1, szB_ok hz, fun l hl => k _ _ _ (.lst hl RDs.intsI)⟩
    · cases e2
  · obtain ⟨is, e1, e2⟩ := Option.map_eq_some_iff.mp e
    subst e2
    obtain ⟨v, rfl, q, us, rfl, ha, ra⟩ := pks1 p
    have eu := intsD_ok ra e1
    subst eu
    exact .inr ⟨q, is, rfl, sqL_of ha, fun ns' l h1 h2 hl => by rw [srtZ_of h1 h2]; exact k _ _ _ (.lst hl RDs.intsI)⟩
  · obtain ⟨is, e1, e2⟩ := Option.map_eq_some_iff.mp e
    subst e2
    obtain ⟨v, rfl, q, us, rfl, ha, ra⟩ := pks1 p
    have eu := intsD_ok ra e1
    subst eu
    exact .inr ⟨q, is, rfl, sqK_of ha, fun ns' l h1 h2 hl => by rw [srtZ_of h1 h2]; exact k _ _ _ (.lst hl RDs.intsI)⟩
  · cases e
theorem bt_sorted : bootBuiltins "sorted" = some (.builtin "sorted") := by decide +kernel
theorem x_sorted (hm : X.mg "sorted" = none) (ha : VA c X W b [e] fs) (hg : Gl X "sorted" := by rfl) (hc : X.calm = true := by rfl) (hK : X.K = c.K := by rfl) (he : starEach (e :: []) X.env = (false, eval e X.env) :: starEach [] X.env := by rfl) : VE c X W b (.Call (.Name "sorted" p) [e] [] pos) (vCall gSorted fs) :=
  ve_callB (r := rSrt c.K) (cal_or (cal_srtDI hc) (by rw [← hK]; exact cr_sortedI)) s_sorted hg hm bt_sorted ha (by decide) (by decide) he
/-! ### z * n -/
def rMulS : R2 := fun x y H Q => ∃ z i, x = .str z ∧ y = .int i ∧ 0 ≤ i ∧ i ≤ 4096 ∧ z.length ≤ 4096 ∧ Q (.str (Txt.mul z i)) H
theorem op_mulS : OpR X (binaryOp .Mult) rMulS := by
  intro pins s σ H x y v u Q J rx ry hh
  obtain ⟨z, i, rfl, rfl, h1, h2, h3, q⟩ := hh
  obtain ⟨t, rfl⟩ := rx
  obtain ⟨t', rfl⟩ := ry
  exact SB.mul (mulOk_of 4096 4096 h3 h2 (by omega) (by decide) (by decide)) fun t2 tk => ⟨.str (Txt.mul z i), H, J.tok _, ⟨_, rfl⟩, q⟩
def gMulS : D → D → Option Val := fun x y => match x, y with
  | .str z, .int i => if decide (0 ≤ i) && (decide (i ≤ 4096) && decide (z.length ≤ 4096)) then some (.fr (.str (Txt.mul z i))) else none
  | _, _ => none
theorem s_mulS : OpS c rMulS gMulS := fun O H x y dx dy w Q _ px py e q => by
  unfold gMulS at e
  split at e
  · split at e
    · rename_i h
      cases e
      obtain ⟨h1, h2⟩ := ba h
      obtain ⟨h2, h3⟩ := ba h2
      exact ⟨_, _, px, py, of_decide_eq_true h1, of_decide_eq_true h2, of_decide_eq_true h3, q _ H [] (.same (d := .str _) rfl)⟩
    · cases e
  · cases e
def gMulU : D → D → Option Val := fun x y => (gMul x y).or (gMulS x y)
theorem x_mulU (ha : VE c X W b a fa) (hb : VE c X W b e fb) : VE c X W b (.BinOp a .Mult e pos) (vOp gMulU fa fb) := ve_op (opR_or op_mulG op_mulS) (opS_or s_mul s_mulS) ha hb
end
end Vl

namespace Vl
open PySem PySem.Spec PyProof.Rows L2 He
/-- the fields of an own exception are none of its class's names -/
def noxB (K : PySem.W.Frag) (cn : Str) (l : List (Str × Nat)) : Bool := l.all fun q => eqO (PySem.W.findIn K (.ref (ga K cn)) q.1) (some none)
theorem noxB_ok {K : PySem.W.Frag} {cn : Str} {l : List (Str × Nat)} (h : noxB K cn l = true) : ∀ q ∈ l, PySem.W.findIn K (.ref (ga K cn)) q.1 = some none := fun q hq => eqO_ok (List.all_eq_true.mp h q hq)
/-- super() of an __init__ -/
def supO : List Stmt → Expr
  | .Expr (.Call (.Attribute o _ _) _ _ _) _ :: _ => o
  | _ => .Name "super" ⟨0, 0, 0, 0⟩
section
variable {c : Vc} {X : Cx} {W : WX} {b : Bool} {bor vs : List Nat} {O O1 O2 O' : Addr → Prop} {fp fp0 fp1 fp2 fp' fq : List Addr} {H H1 H2 H' : Hp} {ρ ρ1 ρ2 ρ' : Env} {σ σ1 σ' : L2.St} {k i n : Nat} {α β : Type} {D1 : Ends}
variable {a e e' o tg iter : Expr} {es : List Expr} {fa fb fo fi : FE} {fs : FG (List Val)} {gt : FT} {pos p pos' apos cpos p1 p2 : Pos} {x : Str} {nm fl : Str} {st : Stmt}
theorem x_appendT (ho : VE c X W false o fo) (ha : VA c X W false [e] fs) (hbase : attributeBase o "append" X.env (eval o X.env) = eval o X.env := by rfl) (hline : (apos.endLine == cpos.line) = true := by rfl) (hs : starEach (e :: []) X.env = (false, eval e X.env) :: starEach [] X.env := by rfl)
    (hfew : ((backTo cpos (starEach (e :: []) X.env)).all (fun q => !q.1) && (backToKw cpos (keywordEach [] X.env)).all (fun q => q.1.isSome)
      && decide ((e :: []).length + ([] : List Keyword).length + (if ([] : List Keyword).isEmpty then 0 else 1) < 30)) = true := by rfl) (hpl : (backTo cpos (starEach [] X.env)).any (·.1) = false := by rfl) :
    VE c X W false (.Call (.Attribute o "append" apos) [e] [] cpos) (vMuT muAppend fo fs) :=
  ve_muT PySem.F.slot_list_append PySem.F.type_list_append mt_append s_append ho ha hbase hfew hline hs hpl
/-! ### reversed(x) -/
def asRev (w : Val) : FG (List D) := fun ρ => match fz w with
  | some (.lst ds) => some (.val ds.reverse ρ)
  | some (.klst ds) => some (.val ds.reverse ρ)
  | _ => none
theorem RDs.rv : ∀ {ds : List D} {us : List V}, RDs c O H ds us → RDs c O H ds.reverse us.reverse
  | [], _, h => by rw [show _ = [] from h]; exact (rfl : ([] : List V) = [])
  | d :: ds, _, ⟨v, r, e, h, t⟩ => by
    rw [e, List.reverse_cons, List.reverse_cons]
    exact (RDs.rv t).app ⟨v, [], rfl, h, rfl⟩
theorem yl_rev {q : Addr} {us : List V} {ds : List D} (h : H q = some (.lst us) ∧ ¬ O q ∨ KL c.K q us ∨ Fz O H q (.lst us)) (r : RDs c O H ds us) (ow : ∀ b ∈ fp, O b) : Yl c (Itv c.K q us.length) ds.reverse O fp H := by
  have keep : ∀ O2 fp2 H2, Ext fp O H fp2 O2 H2 → SqL c.K H2 q us := fun O2 fp2 H2 E => by
    have s := E.stb ow
    rcases h with h | h
    · exact sqL_of ((s.1 q h.2 (.of h.1)).2.2.2.1 _ h.1)
    · exact sqK_of (h.imp id fun z => z.stb s)
  refine ⟨fun O2 fp2 H2 i d E _ tr e => ?_, fun O2 fp2 H2 E tr => ?_⟩
  · have s := E.stb ow
    have k := keep O2 fp2 H2 E
    obtain ⟨v, e1, r1⟩ := ((r.stb s).rv).get e
    have hi : i < us.length := by
      have z := (List.getElem?_eq_some_iff.mp e1).1
      simpa using z
    have e2 : us[us.length - 1 - i]? = some v := by
      rw [← e1, List.getElem?_reverse hi]
    refine ⟨⟨hi, us, v, k, e2⟩, fun x H3 y => ?_⟩
    obtain ⟨e4, y⟩ := y
    subst e4
    have e3 := y us k
    rw [e2] at e3
    cases e3
    exact ⟨fun _ _ => rfl, r1⟩
  · show us.length ≤ ds.reverse.length
    rw [List.length_reverse, r.len]
    exact Nat.le_refl _
theorem vi_rev (hm : X.mg "reversed" = none) (ha : VE c X W false e fa) (hg : Gl X "reversed" := by rfl) (hK : X.K = c.K := by rfl) (hs : starEach [e] X.env = (false, eval e X.env) :: starEach [] X.env := by rfl) : VI c X W tg (.Call (.Name "reversed" p) [e] [] pos) (bnd fa asRev) := by
  obtain ⟨ta, pa, oa⟩ := ha
  refine ⟨_, RT.pi_revA hg hm pa hs, fun O fp H ρ σ R S h => oa.itr S h fun w ρ' u H' O' fp' g S' E r F h => ?_⟩
  cases e : fz w with
  | none => simp only [asRev, e] at h; exact h.elim
  | some d =>
    have rr := r.rest (O1 := fun a => O' a ∧ a ∉ g) e (fun a q => q.1) (fun a ha q => q.2 ha)
    have S2 := S'.less fun a ha => (r.own a ha).2
    rw [hK]
    cases d with
    | lst ds =>
      simp only [asRev, e] at h
      obtain ⟨q, us, eu, h1, r1⟩ := rr
      exact ⟨q, us, eu, .inl ⟨sqL_of h1.1, h _ H' _ fp' S2 (E.less S.tr F) (yl_rev (.inl h1) r1 S2.ow)⟩⟩
    | klst ds =>
      simp only [asRev, e] at h
      obtain ⟨q, us, eu, h1, r1⟩ := rr
      exact ⟨q, us, eu, .inl ⟨sqK_of h1, h _ H' _ fp' S2 (E.less S.tr F) (yl_rev (.inr h1) r1 S2.ow)⟩⟩
    | _ => simp only [asRev, e] at h; exact h.elim
end
end Vl

namespace Vl
open PySem PySem.Spec PyProof.Rows L2 He
section
variable {c : Vc} {X : Cx} {W : WX} {b : Bool} {bor bor' vs : List Nat} {O O1 O2 O' : Addr → Prop} {fp fp0 fp1 fp2 fp' fq : List Addr} {H H1 H2 H' : Hp} {ρ ρ1 ρ2 ρ' : Env} {σ σ1 σ' : L2.St} {k i n : Nat} {α β : Type} {D1 : Ends}
variable {a e e' o tg iter : Expr} {es : List Expr} {fa fb fo fi : FE} {fs : FG (List Val)} {gt : FT} {pos p pos' apos cpos p1 p2 : Pos} {x : Str} {nm fl : Str} {st : Stmt} {f f1 f2 : FS} {ts ts1 ts2 : TS} {body rest : List Stmt}
/-! ### two rules for one thing -/
def orF {α β : Type} (t : α → Bool) (f g : α → β) : α → β := fun ρ => if t ρ then f ρ else g ρ
theorem ve_or2 (t : Env → Bool) (h1 : VE c X W b e fa) (h2 : VE c X W b e fb) : VE c X W b e (orF t fa fb) := by
  obtain ⟨t1, p1, o1⟩ := h1
  obtain ⟨t2, p2, o2⟩ := h2
  refine ⟨fun σ H Q => t1 σ H Q ∨ t2 σ H Q, ⟨fun pins s σ H Q I z => z.elim (p1.run pins s σ H Q I) (p2.run pins s σ H Q I)⟩, fun O fp H ρ σ Q S h => ?_⟩
  unfold orF at h
  by_cases q : t ρ = true
  · rw [if_pos q] at h; exact .inl (o1 O fp H ρ σ Q S h)
  · rw [if_neg q] at h; exact .inr (o2 O fp H ρ σ Q S h)
theorem vs_or2 (t : Env → Bool) (h1 : VS c X W bor st f1) (h2 : VS c X W bor st f2) : VS c X W bor st (orF t f1 f2) := by
  obtain ⟨t1, p1, o1⟩ := h1
  obtain ⟨t2, p2, o2⟩ := h2
  refine ⟨fun D σ H => t1 D σ H ∨ t2 D σ H, ⟨fun pins s σ H Q I z => z.elim (p1.run pins s σ H Q I) (p2.run pins s σ H Q I)⟩, fun O fp H ρ σ Q S h => ?_⟩
  unfold orF at h
  by_cases q : t ρ = true
  · rw [if_pos q] at h; exact .inl (o1 O fp H ρ σ Q S h)
  · rw [if_neg q] at h; exact .inr (o2 O fp H ρ σ Q S h)
theorem PostS.wid {r : Option OutS} (hs : ∀ i ∈ bor, i ∈ bor') (h : PostS c W bor O fp H σ r D1) : PostS c W bor' O fp H σ r D1 := by
  have hb : ∀ {σ' : L2.St}, Bk bor' σ σ' → Bk bor σ σ' := fun q i hi => q i (hs i hi)
  cases r with
  | none => exact h
  | some r =>
    cases r with
    | nx ρ' => exact fun σ' H' O' fp' S E B => h σ' H' O' fp' S E (hb B)
    | ret w ρ' => exact fun u σ' H' O' fp' g S E B R F => h u σ' H' O' fp' g S E (hb B) R F
    | brk ρ' => exact fun σ' H' O' fp' S E B => h σ' H' O' fp' S E (hb B)
    | cnt ρ' => exact fun σ' H' O' fp' S E B => h σ' H' O' fp' S E (hb B)
    | exc y ρ' => exact fun cls d σ' H' O' fp' S E B R => h cls d σ' H' O' fp' S E (hb B) R
theorem VSs.wid (hs : ∀ i ∈ bor, i ∈ bor') (h : VSs c X W bor' body f) : VSs c X W bor body f := by
  obtain ⟨ts, ps, os⟩ := h
  exact ⟨ts, ps, fun O fp H ρ σ D1 S q => os O fp H ρ σ D1 S (q.wid hs)⟩
theorem VG.wid (hs : ∀ i ∈ bor, i ∈ bor') (h : VG c X bor' tg gt) : VG c X bor tg gt := by
  obtain ⟨g, pg, og⟩ := h
  exact ⟨g, pg, fun O fp H ρ σ d v ρ' Q S r e q => og O fp H ρ σ d v ρ' Q S r e fun σ' fp' S' k B => q σ' fp' S' k fun i hi => B i (hs i hi)⟩
/-! ### for over a slot, own or at rest -/
def restAt (i : Nat) (ρ : Env) : Bool := match ρ[i]? with
  | some (some (.fr _)) => true
  | _ => false
def sForU (i : Nat) (gt : FT) (f : FS) : FS := orF (restAt i) (sFor (bnd (vV i) asS) gt f) (sForO i none "" gt f)
theorem vs_forU (i : Nat) (hp : PassesOwn (model X.prog X.w) X.A X.env X.xe) (hg : VG c X (i :: bor) tg gt) (hb : VSs c X W (i :: bor) body f) (hK : X.K = c.K := by rfl) (hc : X.calm = true := by rfl) (hN : X.N[i]? = some x := by rfl) (hv : Vis X.env.scope x := by first | exact Or.inl rfl | exact Or.inr (Or.inl rfl) | exact Or.inr (Or.inr rfl)) (hd : (x == ("__debug__" : Str)) = false := by decide)
    (hcd : (x == ("__classdict__" : Str)) = false := by decide) (hxs : i ∉ c.xs.map (·.i) := by exact nmIn rfl) (hs : ∀ y, foldedSetIterable (.Name x p) X.env y = pure y := by intro _; rfl) : VS c X W bor (.For tg (.Name x p) body [] pos) (sForU i gt f) :=
  vs_or2 _ (vs_for hp hc (vi_seq hK (ve_v i hN hv hd hcd)) (hg.wid fun _ h => List.mem_cons_of_mem _ h) (hb.wid fun _ h => List.mem_cons_of_mem _ h) hs) (vs_forO i hp hg hb hK hc hN hv hd hcd hxs hs)
end
end Vl

namespace Vl
open PySem PySem.Spec PyProof.Rows L2 He
section
variable {α β : Type} {f : FG α} {k : α → FG β} {ρ ρ' : Env} {fa fb fc fo : FE} {fs : FG (List Val)} {pa pb : FG D} {g g' : D → D → Option Val} {ft fu : FG Bool} {p q : FS} {gt : FT} {i j : Int} {n m : Nat} {xs ys : List D} {x y z : Str} {d a b c : D}
/-! ### how the newer words go, for simp -/
@[simp] theorem or_none' {o : Option α} : (none : Option α).or o = o := rfl
@[simp] theorem or_some' {a : α} {o : Option α} : (some a).or o = some a := rfl
@[simp] theorem e_at0 {α : Type} {a : α} {l : List α} : L2.atI (a :: l) 0 = some a := L2.atI_nat (j := 0) rfl
@[simp] theorem e_at1 {α : Type} {a b : α} {l : List α} : L2.atI (a :: b :: l) 1 = some b := L2.atI_nat (j := 1) rfl
@[simp] theorem e_at2 {α : Type} {a b c : α} {l : List α} : L2.atI (a :: b :: c :: l) 2 = some c := L2.atI_nat (j := 2) rfl
@[simp] theorem e_at3 {α : Type} {a b c d : α} {l : List α} : L2.atI (a :: b :: c :: d :: l) 3 = some d := L2.atI_nat (j := 3) rfl
@[simp] theorem e_at4 {α : Type} {a b c d e : α} {l : List α} : L2.atI (a :: b :: c :: d :: e :: l) 4 = some e := L2.atI_nat (j := 4) rfl
@[simp] theorem e_ixl : gIxU (.lst xs) (.int i) = (L2.atI xs i).map .fr := by
  show ((L2.atI xs i).map Val.fr).or none = _
  cases L2.atI xs i <;> rfl
@[simp] theorem e_ixt : gIxU (.tup xs) (.int i) = (L2.atI xs i).map .fr := by
  show ((L2.atI xs i).map Val.fr).or none = _
  cases L2.atI xs i <;> rfl
@[simp] theorem e_ixk : gIxU (.ktup xs) (.int i) = (L2.atI xs i).map .fr := by
  show ((L2.atI xs i).map Val.fr).or none = _
  cases L2.atI xs i <;> rfl
@[simp] theorem e_ixkl : gIxU (.klst xs) (.int i) = (L2.atI xs i).map .fr := by
  show ((L2.atI xs i).map Val.fr).or none = _
  cases L2.atI xs i <;> rfl
@[simp] theorem e_ixd {kvs : List (Key × D)} : gIxU (.dK kvs) (.int i) = (gD kvs (.inl i)).map .fr := by
  show (none : Option Val).or ((keyD (.int i)).bind fun k => (gD kvs k).map .fr) = _
  simp [keyD]
@[simp] theorem e_ixds {kvs : List (Key × D)} : gIxU (.dK kvs) (.str z) = (gD kvs (.inr z)).map .fr := by
  show (none : Option Val).or ((keyD (.str z)).bind fun k => (gD kvs k).map .fr) = _
  simp [keyD]
@[simp] theorem e_seU {t : T} : seU t a b = (seL t a b).or (seD t a b) := rfl
@[simp] theorem e_seDi {kvs : List (Key × D)} : seD (.dK kvs) (.int i) d = if kvs.length < 16000000 then some (.dK (pD kvs (.inl i) d)) else none := rfl
@[simp] theorem e_seDs {kvs : List (Key × D)} : seD (.dK kvs) (.str z) d = if kvs.length < 16000000 then some (.dK (pD kvs (.inr z) d)) else none := rfl
@[simp] theorem e_seLd {kvs : List (Key × D)} : seL (.dK kvs) a b = none := rfl
@[simp] theorem e_seDl : seD (.lst xs) a b = none := rfl
theorem or_of_none {α : Type} {o : Option α} : o.or none = o := by cases o <;> rfl
@[simp] theorem e_isNn {neg : Bool} : gIsU neg .non .non = some (.fr (.bl (!neg))) := by cases neg <;> rfl
@[simp] theorem e_isNt {neg : Bool} : gIsU neg (.tup xs) .non = some (.fr (.bl neg)) := by cases neg <;> rfl
@[simp] theorem e_isNl {neg : Bool} : gIsU neg (.lst xs) .non = some (.fr (.bl neg)) := by cases neg <;> rfl
@[simp] theorem e_isNi {neg : Bool} : gIsU neg (.int i) .non = some (.fr (.bl neg)) := by cases neg <;> rfl
@[simp] theorem e_isNs {neg : Bool} : gIsU neg (.str z) .non = some (.fr (.bl neg)) := by cases neg <;> rfl
@[simp] theorem e_isNb {neg b : Bool} : gIsU neg (.bl b) .non = some (.fr (.bl neg)) := by cases neg <;> rfl
@[simp] theorem e_isNd {neg : Bool} {kvs : List (Key × D)} : gIsU neg (.dK kvs) .non = some (.fr (.bl neg)) := by cases neg <;> rfl
@[simp] theorem e_isBB {neg a b : Bool} : gIsU neg (.bl a) (.bl b) = some (.fr (.bl (if neg then !(a == b) else a == b))) := rfl
@[simp] theorem e_fldO {s : Nat} {nm fl : Str} : vFldO s nm fl ρ = match ρ[s]? with
  | some (some (.obj n fs)) => (if n = nm then match fs.lookup fl with
    | some (.fr d) => some (.val (.fr d) ρ)
    | _ => none
    else none)
  | some (some (.fr (.obj n fs))) => (if n = nm then match fs.lookup fl with
    | some d => some (.val (.fr d) ρ)
    | none => none
    else none)
  | _ => none := rfl
@[simp] theorem e_pfldO {s : Nat} {nm fl : Str} : pFldO s nm fl ρ = match ρ[s]? with
  | some (some (.obj n fs)) => (if n = nm then match (fs.lookup fl).bind T.pk with
    | some d => some (.val d ρ)
    | none => none
    else none)
  | some (some (.fr (.obj n fs))) => (if n = nm then match fs.lookup fl with
    | some d => some (.val d ρ)
    | none => none
    else none)
  | _ => none := rfl
@[simp] theorem e_pkOf : pkOf fa ρ = (bnd fa fun w ρ => match vw ρ w with | some d => some (.val d ρ) | none => none) ρ := rfl
@[simp] theorem e_gv {o : Option Val} : gv o ρ = match o with | some w => some (.val w ρ) | none => none := rfl
@[simp] theorem e_pOp : pOp g pa pb ρ = (bnd pa fun x => bnd pb fun y => gv (g x y)) ρ := rfl
@[simp] theorem e_pNil : pNil ρ = (Vl.ret []) ρ := rfl
@[simp] theorem e_pCons {ps : FG (List D)} : pCons pa ps ρ = (bnd pa fun x => bnd ps fun xs => Vl.ret (x :: xs)) ρ := rfl
@[simp] theorem e_pCall {h : List D → Option Val} {ps : FG (List D)} : pCall h ps ρ = (bnd ps fun ds => gv (h ds)) ρ := rfl
@[simp] theorem e_pTru : pTru pa ρ = (bnd pa fun d ρ => match dTru d with | some k => some (.val k ρ) | none => none) ρ := rfl
@[simp] theorem e_tru_str : dTru (.str z) = if szB z.length then some ((z.length : Int) != 0) else none := rfl
@[simp] theorem e_tru_tup : dTru (.tup xs) = some (!xs.isEmpty) := rfl
@[simp] theorem e_tru_klst : dTru (.klst xs) = some (!xs.isEmpty) := rfl
@[simp] theorem e_mulU : gMulU (.int i) (.int j) = if big64 i j = true then some (.fr (.int (i * j))) else none := by
  simp only [gMulU, gMul, gMulI, iOp]
  split <;> rfl
@[simp] theorem e_tupL : gTuple [.lst xs] = some (.fr (.tup xs)) := rfl
@[simp] theorem e_tupT : gTuple [.tup xs] = some (.fr (.tup xs)) := rfl
@[simp] theorem e_listU : gListU [.lst xs] = some (.nw (.lst xs)) := rfl
@[simp] theorem e_listUk : gListU [.klst xs] = some (.nw (.lst xs)) := rfl
@[simp] theorem e_listUt : gListU [.tup xs] = some (.nw (.lst xs)) := rfl
@[simp] theorem e_listUkt : gListU [.ktup xs] = some (.nw (.lst xs)) := rfl
@[simp] theorem e_lent : gLen [.tup xs] = some (.fr (.int xs.length)) := rfl
@[simp] theorem e_lenkt : gLen [.ktup xs] = some (.fr (.int xs.length)) := rfl
@[simp] theorem e_lens : gLen [.str z] = if szB z.length then some (.fr (.int z.length)) else none := rfl
@[simp] theorem e_cutUl {lo hi : Option Int} : gCutU (.lst xs) lo hi = some (.nw (.lst (cutD xs lo hi))) := rfl
@[simp] theorem e_cutUk {lo hi : Option Int} : gCutU (.klst xs) lo hi = some (.nw (.lst (cutD xs lo hi))) := rfl
@[simp] theorem e_gMax : gMax [.int i, .int j] = some (.fr (.int (if j > i then j else i))) := rfl
@[simp] theorem e_addT {x : D} : gAdd (.tup (x :: xs)) (.tup ys) = if szB ((x :: xs).length + ys.length) then some (.fr (.tup (x :: xs ++ ys))) else none := rfl
@[simp] theorem e_addS : gAdd (.str x) (.str y) = if szB (x.length + y.length) then some (.fr (.str (x ++ y))) else none := rfl
@[simp] theorem e_newK : vNewK ρ = some (.val (.nw (.dK [])) ρ) := rfl
@[simp] theorem e_disp1 : vDisp1 fa fb ρ = (bnd fa fun k => bnd fb fun v => fun ρ => match (vw ρ k).bind keyD, fz v with
  | some kk, some d => some (.val (.nw (.dK [(kk, d)])) ρ)
  | _, _ => none) ρ := rfl
@[simp] theorem e_keyi : keyD (.int i) = some (.inl i) := rfl
@[simp] theorem e_keys : keyD (.str z) = some (.inr z) := rfl
@[simp] theorem e_get : vGet fo fb ρ = (bnd fo fun w => fun ρ => match vw ρ w with
    | some (.dK kvs) => (bnd fb fun y => v2 gGet w y) ρ
    | _ => none) ρ := rfl
@[simp] theorem e_gGet {kvs : List (Key × D)} : gGet (.dK kvs) d = (keyD d).map fun k => .fr ((gD kvs k).getD .non) := rfl
@[simp] theorem e_muF {h : T → List D → Option (D × T)} {s : Nat} {nm fl : Str} : vMuF h s nm fl fs ρ = match ρ[s]? with
  | some (some (.obj n ts)) => (if n = nm then match ts.lookup fl with
    | some (.lst _) => bnd fs (kMuF h s nm fl) ρ
    | _ => none
    else none)
  | _ => none := rfl
@[simp] theorem e_kMuF {h : T → List D → Option (D × T)} {s : Nat} {nm fl : Str} {ws : List Val} : kMuF h s nm fl ws ρ = match ρ[s]?, fzs ws with
  | some (some (.obj n fs)), some ds => (if n = nm then match fs.lookup fl with
    | some (.lst xs) => (match h (.lst xs) ds with
      | some (w, t') => some (.val (.fr w) (ρ.set s (some (.obj n (putT fl t' fs)))))
      | none => none)
    | _ => none
    else none)
  | _, _ => none := rfl
@[simp] theorem e_movF {s : Nat} {nm fl gl : Str} : vMovF s nm fl gl ρ = match ρ[s]? with
  | some (some (.obj n fs)) => (if n = nm ∧ fl ≠ gl then match fs.lookup fl, fs.lookup gl with
    | some (.lst xs), some (.lst ys) => (match ys[ys.length - 1]? with
      | some d => if szL xs.length then some (.val (.fr .non) (ρ.set s (some (.obj n (putT fl (.lst (xs ++ [d])) (putT gl (.lst ys.dropLast) fs)))))) else none
      | none => none)
    | _, _ => none
    else none)
  | _ => none := rfl
@[simp] theorem e_augF {s : Nat} {nm fl : Str} {h : Int → Int → Int} : sAugF s nm fl h fa ρ = match ρ[s]? with
  | some (some (.obj n fs)) => (if n = nm then match fs.lookup fl with
    | some (.fr (.int _)) => exS fa (kAugF s nm fl h) ρ
    | _ => none
    else none)
  | _ => none := rfl
@[simp] theorem e_kAugF {s : Nat} {nm fl : Str} {h : Int → Int → Int} {w : Val} : kAugF s nm fl h w ρ = match ρ[s]?, w with
  | some (some (.obj n fs)), .fr (.int j) => (if n = nm ∧ fs.length < 1000 then match fs.lookup fl with
    | some (.fr (.int d)) => some (.nx (ρ.set s (some (.obj n (putT fl (.fr (.int (h d j))) fs)))))
    | _ => none
    else none)
  | _, _ => none := rfl
@[simp] theorem e_aug {s : Nat} : sAug s g fa ρ = match ρ[s]? with
  | some (some (.fr (.int d0))) => exS fa (fun w ρ1 => match ρ1[s]? with
    | some (some (.fr (.int d))) => if d = d0 then kAug s g w ρ1 else none
    | _ => none) ρ
  | _ => none := rfl
@[simp] theorem e_kAug {s : Nat} {w : Val} : kAug s g w ρ = match ρ[s]? with
  | some (some (.fr d)) => (match (vw ρ w).bind fun y => g d y with
    | some (.fr r) => if s < ρ.length then some (.nx (ρ.set s (some (.fr r)))) else none
    | _ => none)
  | _ => none := rfl
@[simp] theorem e_augL {s : Nat} : sAugL s fa ρ = match ρ[s]? with
  | some (some (.lst _)) => exS fa (kAugL s) ρ
  | _ => none := rfl
@[simp] theorem e_kAugL {s : Nat} {w : Val} : kAugL s w ρ = match ρ[s]?, vw ρ w with
  | some (some (.lst xs)), some (.lst zs) => if szB (xs.length + zs.length) then some (.nx (ρ.set s (some (.lst (xs ++ zs))))) else none
  | _, _ => none := rfl
@[simp] theorem e_iOpA {h : Int → Int → Int} : iOp (fun _ _ => true) h (.int i) (.int j) = some (.fr (.int (h i j))) := rfl
@[simp] theorem e_mv_nwT {t : T} : mvT true (.nw t) = some (.fr t.toD) := rfl
@[simp] theorem e_bot : vBot ρ = none := rfl
@[simp] theorem e_sfrz {s : Nat} : sFrz s p ρ = p (frzE s ρ) := rfl
@[simp] theorem e_frzE {s : Nat} : frzE s ρ = match ρ[s]? with | some (some t) => ρ.set s (some (.fr t.toD)) | _ => ρ := rfl
@[simp] theorem e_sRetN : sRetN ρ = some (.ret (.fr .non) ρ) := rfl
@[simp] theorem e_sbot : sBot ρ = none := rfl
@[simp] theorem e_gtT {gs : FTs} : gT gs (.tup xs) ρ = gs xs ρ := rfl
@[simp] theorem e_gsC {h : FT} {hs : FTs} : gsC h hs (d :: xs) ρ = (h d ρ).bind (hs xs) := rfl
@[simp] theorem e_gsN : gsN [] ρ = some ρ := rfl
@[simp] theorem e_asSl : asS (.fr (.lst xs)) ρ = some (.val xs ρ) := rfl
@[simp] theorem e_asSt : asS (.fr (.tup xs)) ρ = some (.val xs ρ) := rfl
@[simp] theorem e_asSk : asS (.fr (.klst xs)) ρ = some (.val xs ρ) := rfl
@[simp] theorem e_asSn : asS (.nw (.lst xs)) ρ = some (.val xs ρ) := by simp [asS]
/-! ### texts -/
theorem ofS_cps (s : String) : (Str.ofString s).cps.toList = s.toList.map Char.toNat := by
  show (cpsOfBytes 0 0 s.toByteArray.data.toList).toArray.toList = _
  rw [List.toList_toArray]
  exact cpsOfBytes_string s
theorem char_lt (c : Char) : c.toNat < 0x110000 := by
  have h := c.valid
  rcases h with h | ⟨_, h⟩
  · exact Nat.lt_of_lt_of_le (show c.val.toNat < 0xd800 from h) (by decide)
  · exact h
@[simp] theorem strOk_of (s : String) : PyData.strOk (Str.ofString s) = true := by
  unfold PyData.strOk
  rw [← Array.all_toList, ofS_cps, List.all_map]
  exact List.all_eq_true.mpr fun c _ => decide_eq_true (char_lt c)
theorem ofS_inj {s t : String} (h : Str.ofString s = Str.ofString t) : s = t := by
  have q := congrArg (fun z : Str => z.cps.toList) h
  simp only [ofS_cps] at q
  have q2 : s.toList = t.toList := by
    have inj : ∀ {a b : List Char}, a.map Char.toNat = b.map Char.toNat → a = b := by
      intro a
      induction a with
      | nil => intro b e; cases b <;> simp_all
      | cons x xs ih =>
        intro b e
        cases b with
        | nil => simp at e
        | cons y ys =>
          simp only [List.map_cons, List.cons.injEq] at e
          rw [ih e.2, Char.toNat_inj.mp e.1]
    exact inj q
  exact String.toList_inj.mp q2
@[simp] theorem ofS_eq {s t : String} : (Str.ofString s = Str.ofString t) = (s = t) := propext ⟨ofS_inj, fun h => by rw [h]⟩
@[simp] theorem ofS_beq {s t : String} : (Str.ofString s == Str.ofString t) = (s == t) := by
  by_cases h : s = t
  · subst h; simp
  · have h' : ¬ Str.ofString s = Str.ofString t := fun q => h (ofS_inj q)
    rw [beq_eq_false_iff_ne.mpr h', beq_eq_false_iff_ne.mpr h]
theorem eqi_str (hx : PyData.strOk x = true) (hy : PyData.strOk y = true) : gEq (.str x) (.str y) = some (.fr (.bl (x == y))) := by
  simp [gEq, eqD, D.py, SeqAt.shaped, PyData.eqv, PyData.canLay0, PyData.depth, hx, hy]
theorem nei_str (hx : PyData.strOk x = true) (hy : PyData.strOk y = true) : gNe (.str x) (.str y) = some (.fr (.bl (!(x == y)))) := by
  simp [gNe, eqD, D.py, SeqAt.shaped, PyData.eqv, PyData.canLay0, PyData.depth, hx, hy]
@[simp] theorem lk_ss {α : Type} {s t : String} {v : α} {l : List (Str × α)} : List.lookup (Str.ofString s) ((Str.ofString t, v) :: l) = if s = t then some v else List.lookup (Str.ofString s) l := by
  rw [List.lookup_cons, ofS_beq]
  by_cases h : s = t
  · subst h; simp
  · rw [if_neg h, beq_eq_false_iff_ne.mpr h]
@[simp] theorem put_ss {s r : String} {t x : T} {l : List (Str × T)} : putT (Str.ofString s) t ((Str.ofString r, x) :: l) = if r = s then (Str.ofString r, t) :: l else (Str.ofString r, x) :: putT (Str.ofString s) t l := by
  show (if Str.ofString r = Str.ofString s then _ else _) = _
  by_cases h : r = s
  · subst h; simp
  · rw [if_neg h, if_neg (fun q => h (ofS_inj q))]
@[simp] theorem put_nil {f : Str} {t : T} : putT f t [] = [(f, t)] := rfl
@[simp] theorem eqi_ss {s t : String} : gEq (.str (Str.ofString s)) (.str (Str.ofString t)) = some (.fr (.bl (s == t))) := by rw [eqi_str (strOk_of _) (strOk_of _), ofS_beq]
@[simp] theorem nei_ss {s t : String} : gNe (.str (Str.ofString s)) (.str (Str.ofString t)) = some (.fr (.bl (!(s == t)))) := by rw [nei_str (strOk_of _) (strOk_of _), ofS_beq]
def St (zs : List Str) : List D := zs.map .str
theorem St_nil : ([] : List D) = St [] := rfl
theorem St_cons {zs : List Str} : D.str x :: St zs = St (x :: zs) := rfl
theorem inD_St {zs : List Str} : inD (.str z) (St zs) = decide (z ∈ zs) := by
  induction zs with
  | nil => rfl
  | cons w ws ih =>
    show (eqF (.str w) (.str z) || inD (.str z) (St ws)) = _
    rw [ih]
    show ((w == z) || _) = _
    by_cases h : z = w
    · subst h; simp
    · have h' : ¬ w = z := fun q => h q.symm
      simp [h, h']
theorem flat_St {zs : List Str} : (St zs).all flatD = true := by
  unfold St
  rw [List.all_map]
  exact List.all_eq_true.mpr fun _ _ => rfl
theorem inU_str {neg : Bool} {zs : List Str} (h : itemsD d = some (St zs)) : gInU neg (.str z) d = some (.fr (.bl (if neg then !decide (z ∈ zs) else decide (z ∈ zs)))) := by
  unfold gInU gIn gFI
  rw [h]
  simp only [Option.bind_some, flat_St, inD_St, flatD, Bool.and_self, if_true]
  rfl
theorem inD_I {xs : List Int} : inD (.int i) (I xs) = decide (i ∈ xs) := by
  induction xs with
  | nil => rfl
  | cons w ws ih =>
    show (eqF (.int w) (.int i) || inD (.int i) (I ws)) = _
    rw [ih]
    show ((w == i) || _) = _
    by_cases h : i = w
    · subst h; simp
    · have h' : ¬ w = i := fun q => h q.symm
      simp [h, h']
theorem flat_I {xs : List Int} : (I xs).all flatD = true := by
  unfold I
  rw [List.all_map]
  exact List.all_eq_true.mpr fun _ _ => rfl
theorem inU_I {neg : Bool} {xs : List Int} (h : itemsD d = some (I xs)) : gInU neg (.int i) d = some (.fr (.bl (if neg then !decide (i ∈ xs) else decide (i ∈ xs)))) := by
  unfold gInU gIn gFI
  rw [h]
  simp only [Option.bind_some, flat_I, inD_I, flatD, Bool.and_self, if_true]
  rfl
theorem inU_dI {neg : Bool} {kvs : List (Key × D)} : gInU neg (.int i) (.dK kvs) = some (.fr (.bl (if neg then !(gD kvs (.inl i)).isSome else (gD kvs (.inl i)).isSome))) := rfl
end
/-! ### equal data -/
mutual
/-- no bools, no dicts; texts as they should be -/
def D.pl : D → Bool
  | .non => true | .int _ => true | .str z => PyData.strOk z | .lst xs => D.pls xs | .tup xs => D.pls xs | _ => false
def D.pls : List D → Bool
  | [] => true
  | d :: ds => D.pl d && D.pls ds
end
mutual
def D.dp : D → Nat
  | .lst xs => D.dps xs + 1 | .tup xs => D.dps xs + 1 | _ => 0
def D.dps : List D → Nat
  | [] => 0
  | d :: ds => max (D.dp d) (D.dps ds)
end
mutual
theorem D.pl_py : ∀ {d : D}, d.pl = true → ∃ p, d.py = some p ∧ p.canLay0 = true ∧ p.depth ≤ d.dp + 1 ∧ PyData.eqv p p = true
  | .non, _ => ⟨_, rfl, rfl, by simp [PyData.depth], rfl⟩
  | .int _, _ => ⟨_, rfl, rfl, by simp [PyData.depth], by simp [PyData.eqv]⟩
  | .str _, h => ⟨_, rfl, h, by simp [PyData.depth], by simp [PyData.eqv]⟩
  | .lst xs, h => by
    obtain ⟨ps, h1, h2, h3, h4⟩ := D.pls_py (ds := xs) (by simpa [D.pl] using h)
    exact ⟨.list ps, by show (D.pys xs).map PyData.list = _; rw [h1]; rfl, by simpa [PyData.canLay0] using h2, by simp only [PyData.depth, D.dp]; omega, by simpa [PyData.eqv] using h4⟩
  | .tup xs, h => by
    obtain ⟨ps, h1, h2, h3, h4⟩ := D.pls_py (ds := xs) (by simpa [D.pl] using h)
    exact ⟨.tuple ps, by show (D.pys xs).map PyData.tuple = _; rw [h1]; rfl, by simpa [PyData.canLay0] using h2, by simp only [PyData.depth, D.dp]; omega, by simpa [PyData.eqv] using h4⟩
theorem D.pls_py : ∀ {ds : List D}, D.pls ds = true → ∃ ps, D.pys ds = some ps ∧ PyData.canLayAll0 ps = true ∧ PyData.depthAll ps ≤ D.dps ds + 1 ∧ PyData.eqvAll ps ps = true
  | [], _ => ⟨[], rfl, rfl, by simp [PyData.depthAll], rfl⟩
  | d :: ds, h => by
    have h : (D.pl d && D.pls ds) = true := by simpa [D.pls] using h
    rw [Bool.and_eq_true] at h
    obtain ⟨p, h1, h2, h3, h4⟩ := D.pl_py h.1
    obtain ⟨ps, k1, k2, k3, k4⟩ := D.pls_py h.2
    refine ⟨p :: ps, by show (D.py d).bind (fun p => (D.pys ds).map fun ps => p :: ps) = _; rw [h1, k1]; rfl, by simp [PyData.canLayAll0, h2, k2], ?_, by simp [PyData.eqvAll, h4, k4]⟩
    simp only [PyData.depthAll, D.dps]
    omega
end
theorem eqD_self {d : D} (h : d.pl = true) (hd : d.dp ≤ 60) : eqD d d = some true := by
  obtain ⟨p, h1, h2, h3, h4⟩ := D.pl_py h
  unfold eqD
  rw [h1]
  have hs : SeqAt.shaped p = true := by simp [SeqAt.shaped, h2]; omega
  simp [hs, h4]
theorem gEq_self {d : D} (h : d.pl = true) (hd : d.dp ≤ 60) : gEq d d = some (.fr (.bl true)) := by simp [gEq, eqD_self h hd]
theorem gNe_self {d : D} (h : d.pl = true) (hd : d.dp ≤ 60) : gNe d d = some (.fr (.bl false)) := by simp [gNe, eqD_self h hd]
theorem pls_map {α : Type} {f : α → D} : ∀ {l : List α}, (∀ x ∈ l, (f x).pl = true) → D.pls (l.map f) = true
  | [], _ => rfl
  | x :: l, h => by
    rw [List.map_cons]
    unfold D.pls
    rw [h x (by simp), pls_map fun y hy => h y (by simp [hy])]
    rfl
theorem dps_map {α : Type} {f : α → D} {k : Nat} : ∀ {l : List α}, (∀ x ∈ l, (f x).dp ≤ k) → D.dps (l.map f) ≤ k
  | [], _ => by simp [D.dps]
  | x :: l, h => by
    rw [List.map_cons]
    unfold D.dps
    have h1 := h x (by simp)
    have h2 := dps_map (k := k) (l := l) fun y hy => h y (by simp [hy])
    omega
/-! ### comprehensions, loops -/
theorem compD_ev {α : Type} {enc : α → D} {sel : α → Bool} {h : α → D} {vs : List Nat} {gt : FT} {ft : FG Bool} {fe : FE} {ρ : Env} : ∀ {l : List α} {acc : List D}, (∀ a ∈ l, stepC vs gt ft fe (enc a) ρ = some (if sel a then some (h a) else none, ρ)) → acc.length + l.length ≤ 16777216 → compD vs gt ft fe (l.map enc) acc ρ = some (acc ++ (l.filter sel).map h, ρ)
  | [], acc, _, _ => by simp [compD]
  | d :: ds, acc, hs, hl => by
    have h1 := hs d List.mem_cons_self
    have hl' : acc.length + (ds.length + 1) ≤ 16777216 := by simpa using hl
    have h2 : ∀ a ∈ ds, stepC vs gt ft fe (enc a) ρ = some (if sel a then some (h a) else none, ρ) := fun a ha => hs a (List.mem_cons_of_mem _ ha)
    rw [List.map_cons]
    unfold compD
    rw [h1]
    cases e : sel d
    · have ih := compD_ev (l := ds) (acc := acc) h2 (by omega)
      simp [ih, e]
    · have ih := compD_ev (l := ds) (acc := acc ++ [h d]) h2 (by simp; omega)
      have hz : szL acc.length = true := by simp; omega
      simp only [hz, if_true, ih]
      simp [e]
theorem lc_ev {α : Type} (enc : α → D) (sel : α → Bool) (h : α → D) (l : List α) {n : Nat} {vs : List Nat} {fi : FG (List D)} {gt : FT} {ft : FG Bool} {fe : FE} {ρ ρ1 ρ0 : Env} (e1 : fi ρ = some (.val (l.map enc) ρ1)) (hn : ρ1.length ≤ n) (e0 : wipeE ρ1 vs = ρ0)
    (hs : ∀ a ∈ l, stepC vs gt ft fe (enc a) ρ0 = some (if sel a then some (h a) else none, ρ0)) (hl : l.length ≤ 16777216) : vLc n vs fi gt ft fe ρ = some (.val (.nw (.lst ((l.filter sel).map h))) ρ0) := by
  unfold vLc bnd
  rw [e1]
  simp only [kLc, hn, if_true, e0]
  rw [compD_ev (acc := []) hs (by simpa using hl)]
  simp
theorem lc_map {α : Type} (enc : α → D) (h : α → D) (l : List α) {n : Nat} {vs : List Nat} {fi : FG (List D)} {gt : FT} {ft : FG Bool} {fe : FE} {ρ ρ1 ρ0 : Env} (e1 : fi ρ = some (.val (l.map enc) ρ1)) (hn : ρ1.length ≤ n) (e0 : wipeE ρ1 vs = ρ0)
    (hs : ∀ a ∈ l, stepC vs gt ft fe (enc a) ρ0 = some (some (h a), ρ0)) (hl : l.length ≤ 16777216) : vLc n vs fi gt ft fe ρ = some (.val (.nw (.lst (l.map h))) ρ0) := by
  have q := lc_ev enc (fun _ => true) h l e1 hn e0 (fun a ha => by rw [hs a ha]; rfl) hl
  rw [q, List.filter_eq_self.mpr fun _ _ => rfl]
theorem lcO_ev {α : Type} (enc : α → D) (sel : α → Bool) (h : α → D) (l : List α) {n i : Nat} {vs : List Nat} {gt : FT} {ft : FG Bool} {fe : FE} {ρ ρ0 : Env} (e1 : ρ[i]? = some (some (.lst (l.map enc)))) (hn : ρ.length ≤ n) (hi : i ∉ vs) (e0 : wipeE (ρ.set i none) vs = ρ0)
    (hs : ∀ a ∈ l, stepC vs gt ft fe (enc a) ρ0 = some (if sel a then some (h a) else none, ρ0)) (hl : l.length ≤ 16777216) : vLcO n i vs gt ft fe ρ = some (.val (.nw (.lst ((l.filter sel).map h))) (ρ0.set i (some (.lst (l.map enc))))) := by
  unfold vLcO
  rw [e1]
  simp only [hn, hi, not_false_eq_true, and_self, if_true, e0]
  rw [compD_ev (acc := []) hs (by simpa using hl)]
  simp
theorem rng0 {n : Nat} : rngD 0 n = (List.range n).map fun (i : Nat) => D.int i := by simp [rngD]
theorem dR1_int {i : Int} (h0 : 0 ≤ i) (h : i ≤ 1000000) : dR1 [.fr (.int i)] = some ((List.range i.toNat).map fun (i : Nat) => D.int i) := by
  obtain ⟨n, rfl⟩ := Int.eq_ofNat_of_zero_le h0
  rw [dR1_nat (by omega), rng0]
  rfl
theorem seq_exc {f g : FS} {ρ ρ' : Env} {x : Exn} (h : f ρ = some (.exc x ρ')) : sSeq f g ρ = some (.exc x ρ') := by unfold sSeq onNx; rw [h]
end Vl

namespace Vl
open PySem PySem.Spec PyProof.Rows L2 He
/-! ### the hook over what some names reach -/
def refsZ (o : Obj) : List Addr := refV o.cls ++ ((match o.dict with
  | some d => [d]
  | none => []) ++ match o.data with
  | .seq its _ => its.toList.flatMap refV
  | .dict es _ => es.toList.flatMap fun e => refV e.val
  | .func fd => refV fd.code ++ (refV fd.defaults ++ (refV fd.kwdefaults ++ fd.closure.map (·.2)))
  | .cls cd => cd.ns :: cd.mro.flatMap refV
  | .cell (some v) => refV v
  | _ => [])
def newZ : List Addr → Nat → List Addr → List Addr × Nat
  | [], seen, acc => (acc, seen)
  | a :: as, seen, acc => match Nat.beq (Nat.land (Nat.shiftRight seen a) 1) 1 with
    | true => newZ as seen acc
    | false => newZ as (Nat.lor seen (Nat.shiftLeft 1 a)) (a :: acc)
def bfsZ (g : Addr → Option Obj) : Nat → List Addr → Nat → List Addr → List Addr
  | 0, _, _, acc => acc
  | n + 1, fr, seen, acc => match newZ (fr.flatMap fun a => match g a with | some o => refsZ o | none => []) seen [] with
    | (new, seen') => bfsZ g n new seen' (acc ++ new)
def rootZ (g : Addr → Option Obj) (xs : List Str) : List Addr := match g mainGlobals with
  | some o => xs.map fun x => ga [(mainGlobals, o)] x
  | none => []
def asZ (xs : List Str) (n : Nat) (g : Addr → Option Obj) : List Addr := match newZ (mainGlobals :: cStatics :: rootZ g xs) 0 [] with
  | (new, seen) => bfsZ g n (new.filter fun a => !(Nat.beq a mainGlobals || Nat.beq a cStatics)) seen (mainGlobals :: cStatics :: new)
abbrev KZ (as : (Addr → Option Obj) → List Addr) (g : Addr → Option Obj) : PySem.W.Frag := frT g (as g)
def obsZ (as : (Addr → Option Obj) → List Addr) (fa : List Fa) (fn : List DefD) (ts : List Tab) (tf : List Defn) (ex : PySem.W.Frag → Bool) (xf : List XDef) (g : Addr → Option Obj) : AlY := ((obsT fa fn ts (KZ as g), ex (KZ as g) && tabsB g tf (KZ as g)), xf.map fun d => fnC (KZ as g) d.at_)
theorem saysZ_of {as : (Addr → Option Obj) → List Addr} {fa : List Fa} {fn : List DefD} {ts : List Tab} {tf : List Defn} {ex : PySem.W.Frag → Bool} {xf : List XDef} {w : World} {h : Heap} (e : obsZ as fa fn ts tf ex xf h.get? = valY fn ts xf w) : SaysX fa fn ts tf ex w h (KZ as h.get?) ∧ Yf xf (KZ as h.get?) := by
  have e1 : obsT fa fn ts (KZ as h.get?) = valT fn ts w := congrArg (fun z : AlY => z.1.1) e
  have e2 : (ex (KZ as h.get?) && tabsB h.get? tf (KZ as h.get?)) = true := congrArg (fun z : AlY => z.1.2) e
  have e3 : xf.map (fun d => fnC (KZ as h.get?) d.at_) = xf.map XDef.val := congrArg (fun z : AlY => z.2) e
  obtain ⟨h1, h2⟩ := ba e2
  have key : ∀ p ∈ tf, PySem.W.codeHdIn (KZ as h.get?) (cT (KZ as h.get?) p).1 (cT (KZ as h.get?) p).2 = true ∧ ∃ o, h.get? (cT (KZ as h.get?) p).2 = some o ∧ emptyTab o = true := fun p hp => by
    have hq := List.all_eq_true.mp h2 p hp
    obtain ⟨h3, h4⟩ := ba hq
    cases q : h.get? (cT (KZ as h.get?) p).2 with
    | none => rw [q] at h4; cases h4
    | some o => rw [q] at h4; exact ⟨h3, o, rfl, h4⟩
  refine ⟨⟨e1, h1, fun p hp => (key p hp).1, fun p hp => ?_, fun p hp => ?_⟩, fun i d hd => ?_⟩
  · obtain ⟨_, o, q, z⟩ := key p hp
    exact frT_none q z
  · obtain ⟨_, o, q, z⟩ := key p hp
    rw [q, emptyTab_eq z]
  · have q := congrArg (fun l : List FnC => l[i]?) e3
    simp only [List.getElem?_map, hd, Option.map_some] at q
    exact Option.some.inj q
def hookZ (as : (Addr → Option Obj) → List Addr) (fa : List Fa) (fn : List DefD) (ts : List Tab) (tf : List Defn) (ex : PySem.W.Frag → Bool) (xf : List XDef) : PySem.W.Hook where
  α := AlY
  obs := fun s => obsZ as fa fn ts tf ex xf s.heap.get?
  val := fun w => valY fn ts xf w
  says := fun w h => ∃ K : PySem.W.Frag, K.In h ∧ SaysX fa fn ts tf ex w h K ∧ Yf xf K
  of := fun _ _ e => ⟨_, frT_in, saysZ_of e⟩
  keeps := fun _ _ _ ⟨K, hK, c, y⟩ k => ⟨K, PySem.W.Frag.In.keeps hK k, ⟨c.t, c.more, c.hd, c.out, fun p hp => k _ _ (c.empty p hp)⟩, y⟩
theorem obsZ_eq {as : (Addr → Option Obj) → List Addr} {fa : List Fa} {fn : List DefD} {ts : List Tab} {tf : List Defn} {ex : PySem.W.Frag → Bool} {xf : List XDef} {g : Addr → Option Obj} {s : Shared} (h : ∀ a, g a = s.heap.get? a) : obsZ as fa fn ts tf ex xf g = (hookZ as fa fn ts tf ex xf).obs s := by
  have e : g = s.heap.get? := funext h
  rw [e] <;> rfl
end Vl

namespace Vl
open PySem PySem.Spec PyProof.Rows L2 He
section
variable {c : Vc} {X : Cx} {W : WX} {b : Bool} {bor vs : List Nat} {O O1 O2 O' : Addr → Prop} {fp fp0 fp1 fp2 fp' fq : List Addr} {H H1 H2 H' : Hp} {ρ ρ1 ρ2 ρ' : Env} {σ σ1 σ' : L2.St} {k i n : Nat} {α β : Type} {D1 : Ends} {a : Addr} {od : Obj} {us : List (Key × V)} {kvs : List (Key × D)}
variable {e e' o tg iter elt : Expr} {ifs : List Expr} {body : List Stmt} {pos p pos' apos p1 : Pos} {x : Str} {nm fl : Str} {gt : FT} {f : FS} {fe : FE} {ft : FG Bool}
/-! ### the keys of a dict at rest, walked: the dict is locked meanwhile -/
def keysL (kvs : List (Key × D)) : List D := kvs.map fun kv => keyVD kv.1
theorem rdk_at : ∀ {kvs : List (Key × D)} {us : List (Key × V)} {i : Nat} {k : Key} {v : V}, RDk c O H kvs us → us[i]? = some (k, v) → ∃ d, kvs[i]? = some (k, d)
  | [], _, i, k, v, h, e => by rw [show _ = [] from h] at e; simp at e
  | (k0, d0) :: r, _, 0, k, v, ⟨v0, r0, e0, h1, h2⟩, e => by rw [e0] at e; simp at e; exact ⟨d0, by rw [e.1]; rfl⟩
  | (k0, d0) :: r, _, i + 1, k, v, ⟨v0, r0, e0, h1, h2⟩, e => by rw [e0] at e; exact rdk_at (i := i) h2 (by simpa using e)
theorem rd_key : ∀ k : Key, RD c O H (keyVD k) (kV k)
  | .inl _ => rfl
  | .inr _ => rfl
theorem yl_keys (h : H a = some (.frz od (.dK us))) (na : a ∉ fp) (r : RDk c O H kvs us) (ow : ∀ b ∈ fp, O b) : Yl c (Itk a od us) (keysL kvs) O fp H where
  go := fun O2 fp2 H2 i d E _ _ e => by
    have k2 : H2 a = some (.frz od (.dK us)) := (E.kp a (.of h) na).trans h
    have hl : us.length = kvs.length := r.len
    have hi : i < kvs.length := by
      have q := (List.getElem?_eq_some_iff.mp e).1
      simpa [keysL] using q
    refine ⟨⟨k2, by omega⟩, fun x H3 y => ?_⟩
    obtain ⟨rfl, kk, v, e1, rfl⟩ := y
    obtain ⟨d', e2⟩ := rdk_at r e1
    have e3 : (keysL kvs)[i]? = some (keyVD kk) := by simp [keysL, e2]
    rw [e] at e3
    cases e3
    exact ⟨fun _ _ => rfl, rd_key kk⟩
  stop := fun O2 fp2 H2 E _ => ⟨(E.kp a (.of h) na).trans h, by rw [r.len]; simp [keysL]⟩
/-- one thing at rest is seen in another way -/
theorem SR.seen (S : SR c O fp H ρ σ) (ho : ∀ b, b ≠ a → H1 b = H b) (hs : Sim (H a) (H1 a)) (na : ¬ O a) (nt : nT (H a)) : SR c O fp H1 ρ σ := by
  have st : Stb O H O H1 := ⟨fun b _ _ => by
    by_cases z : b = a
    · rw [z]; exact hs
    · exact .of (ho b z), fun b h => .inl h⟩
  have ne : ∀ b, O b → b ≠ a := fun b h z => na (z ▸ h)
  refine ⟨S.rs.stb st fun b hb => ho b (ne b (S.ow b hb)), S.nd, S.ow, fun b hb => by rw [ho b (ne b hb)]; exact S.tr b hb, fun P hP => ?_, fun q hq => (S.px q hq).stb st⟩
  obtain ⟨ps, e, kk⟩ := S.tb P hP
  refine ⟨ps, ?_, kk⟩
  rw [ho P fun z => by
    obtain ⟨u, e1, e2⟩ := nt
    rw [← z, e] at e1
    cases e1
    cases e2]
  exact e
theorem sim_lock : Sim (some (.dK us)) (some (.frz od (.dK us))) := ⟨rfl, fun _ q => (by cases q), fun _ _ _ q => (by cases q), fun _ q => (by cases q), fun _ q => (by cases q)⟩
theorem sim_unlock : Sim (some (.frz od (.dK us))) (some (.dK us)) := ⟨rfl, fun _ q => (by cases q), fun _ _ _ q => (by cases q), fun _ q => (by cases q), fun _ q => (by cases q)⟩
theorem seen_stb (ho : ∀ b, b ≠ a → H1 b = H b) (hs : Sim (H a) (H1 a)) : Stb O H O H1 := ⟨fun b _ _ => by
    by_cases z : b = a
    · rw [z]; exact hs
    · exact .of (ho b z), fun b h => .inl h⟩
theorem RV.seen {w : Val} {u : V} {g : List Addr} (r : RV c O fp H ρ σ w u g) (ho : ∀ b, b ≠ a → H1 b = H b) (hs : Sim (H a) (H1 a)) (na : ¬ O a) (hl : ∀ xs, H a ≠ some (.lst xs)) : RV c O fp H1 ρ σ w u g := by
  have st := seen_stb (O := O) ho hs
  cases w with
  | fr d => exact ⟨r.1.stb st, r.2⟩
  | nw t => exact ⟨r.1.stb st fun b hb => ho b fun z => na (z ▸ (r.2.2 b hb).1), r.2⟩
  | al j => exact r
  | pt j l =>
    obtain ⟨⟨q, ws, e1, ⟨e2, e3⟩, e4⟩, e5⟩ := r
    refine ⟨⟨q, ws, e1, ⟨?_, e3⟩, e4⟩, e5⟩
    rw [ho q fun z => hl ws (z ▸ e2)]
    exact e2
def noX : Option OutS → Option OutS
  | some (.exc _ _) => none
  | r => r
theorem unlk {r : Option OutS} (S : SR c O fp H ρ σ) (hd : H a = some (.dK us)) (na : ¬ O a) (h : PostS c W bor O fp H σ (noX r) D1) :
    PostS c W bor O fp (upd H a (.frz od (.dK us))) σ r ⟨fun σ' H' => H' a = some (.frz od (.dK us)) ∧ D1.nx σ' (upd H' a (.dK us)), fun v H' => H' a = some (.frz od (.dK us)) ∧ D1.rt v (upd H' a (.dK us)), fun σ' H' => H' a = some (.frz od (.dK us)) ∧ D1.bk σ' (upd H' a (.dK us)), fun σ' H' => H' a = some (.frz od (.dK us)) ∧ D1.ct σ' (upd H' a (.dK us))⟩ := by
  have nf : a ∉ fp := fun z => na (S.ow a z)
  have back : ∀ {σ' : L2.St} {H' : Hp} {O' : Addr → Prop} {fp' : List Addr} {ρ' : Env}, SR c O' fp' H' ρ' σ' → Ext fp O (upd H a (.frz od (.dK us))) fp' O' H' →
      H' a = some (.frz od (.dK us)) ∧ ¬ O' a ∧ SR c O' fp' (upd H' a (.dK us)) ρ' σ' ∧ Ext fp O H fp' O' (upd H' a (.dK us)) := fun {σ' H' O' fp' ρ'} S' E' => by
    have ha : H' a = some (.frz od (.dK us)) := (E'.kp a (.of upd_same) nf).trans upd_same
    have no : ¬ O' a := fun z => (E'.on a z).elim na fun q => by rw [upd_same] at q; cases q
    have nn : ∀ b, (upd H a (.frz od (.dK us))) b = none → H b = none := fun b e => by
      by_cases z : b = a
      · rw [z, upd_same] at e; cases e
      · rwa [upd_ne z] at e
    refine ⟨ha, no, S'.seen (a := a) (fun b z => upd_ne z) (by rw [ha, upd_same]; exact sim_unlock) no (by rw [ha]; exact .of rfl), fun b hb n => ?_, fun b hb => ?_, fun b hb n => E'.ok b hb n, fun b hb => (E'.on b hb).imp id (nn b), fun b hb => (E'.fn b hb).imp id (nn b)⟩
    · by_cases z : b = a
      · rw [z, upd_same, hd]
      · rw [upd_ne z, E'.kp b (by rw [upd_ne z]; exact hb) n, upd_ne z]
    · by_cases z : b = a
      · rw [z, upd_same]; simp
      · rw [upd_ne z]; exact E'.th b (by rw [upd_ne z]; exact hb)
  cases r with
  | none => exact h
  | some q =>
    cases q with
    | nx ρ5 => exact fun σ' H' O' fp' S' E' B' => let ⟨x1, x2, x3, x4⟩ := back S' E'; ⟨x1, h σ' _ O' fp' x3 x4 B'⟩
    | brk ρ5 => exact fun σ' H' O' fp' S' E' B' => let ⟨x1, x2, x3, x4⟩ := back S' E'; ⟨x1, h σ' _ O' fp' x3 x4 B'⟩
    | cnt ρ5 => exact fun σ' H' O' fp' S' E' B' => let ⟨x1, x2, x3, x4⟩ := back S' E'; ⟨x1, h σ' _ O' fp' x3 x4 B'⟩
    | exc y ρ5 => exact h.elim
    | ret w ρ5 =>
      intro u σ' H' O' fp' g' S' E' B' R' F'
      obtain ⟨x1, x2, x3, x4⟩ := back S' E'
      refine ⟨x1, h u σ' _ O' fp' g' x3 x4 B' (R'.seen (a := a) (fun b z => upd_ne z) (by rw [x1, upd_same]; exact sim_unlock) x2 fun xs q => by rw [x1] at q; cases q) fun y hy => (F' y hy).imp (fun q => ?_) id⟩
      by_cases z : y = a
      · rw [z, upd_same] at q; cases q
      · rwa [upd_ne z] at q
theorem ps_or {st : Stmt} {t1 t2 : TS} (h1 : PS X st t1) (h2 : PS X st t2) : PS X st fun D σ H => t1 D σ H ∨ t2 D σ H :=
  ⟨fun pins s σ H D I hw => hw.elim (h1.run pins s σ H D I) (h2.run pins s σ H D I)⟩
theorem pe_or {t1 t2 : TE} (h1 : PE X e t1) (h2 : PE X e t2) : PE X e fun σ H Q => t1 σ H Q ∨ t2 σ H Q :=
  ⟨fun pins s σ H D I hw => hw.elim (h1.run pins s σ H D I) (h2.run pins s σ H D I)⟩
/-- for x in d, a dict at rest in slot i -/
def sForK (i : Nat) (gt : FT) (f : FS) : FS := fun ρ => match ρ[i]? with
  | some (some (.fr (.dK kvs))) => noX (loopD gt f (keysL kvs) ρ)
  | _ => none
theorem noX_post {r : Option OutS} (h : PostS c W bor O fp H σ (noX r) D1) : PostS c W bor O fp H σ r D1 := by
  cases r with
  | none => exact h
  | some q => cases q with
    | exc y ρ => exact h.elim
    | _ => exact h
theorem vs_forK (i : Nat) (hp : PassesOwn (model X.prog X.w) X.A X.env X.xe) (hg : VG c X bor tg gt) (hb : VSs c X W bor body f) (hK : X.K = c.K := by rfl) (hc : X.calm = true := by rfl) (hN : X.N[i]? = some x := by rfl) (hv : Vis X.env.scope x := by first | exact Or.inl rfl | exact Or.inr (Or.inl rfl) | exact Or.inr (Or.inr rfl)) (hd : (x == ("__debug__" : Str)) = false := by decide)
    (hcd : (x == ("__classdict__" : Str)) = false := by decide) (hs : ∀ y, foldedSetIterable (.Name x p) X.env y = pure y := by intro _; rfl) : VS c X W bor (.For tg (.Name x p) body [] pos) (sForK i gt f) := by
  obtain ⟨g, pg, og⟩ := hg
  obtain ⟨tb, pb, ob⟩ := hb
  have base := ps_for hp hc (pi_keys (pv i hN hv hd hcd)) pg pb hs (pos := pos)
  refine ⟨_, ps_or (ps_lock base) base, fun O fp H ρ σ D1 S h => ?_⟩
  unfold sForK at h
  split at h
  · rename_i kvs e1
    obtain ⟨v, fq, fl, fr, h1, h2, h3, _, _⟩ := S.rs.get e1
    obtain ⟨⟨a, us, rfl, ⟨hz, na⟩, rk⟩, _⟩ := h2
    have nf : a ∉ fp := fun z => na (S.ow a z)
    cases ha : H a with
    | none => rw [ha] at hz; cases hz
    | some u =>
      rw [ha] at hz
      cases u with
      | frz od u' =>
        cases hz
        refine .inr ⟨_, h1, a, od, rfl, .inl ⟨us, ha, ?_⟩⟩
        exact for_core og ob S (yl_keys ha nf rk S.ow) (noX_post h)
      | dK us' =>
        cases hz
        refine .inl ⟨a, .dK us, ha, trivial, fun od => ⟨_, h1, a, od, rfl, .inl ⟨us, upd_same, ?_⟩⟩⟩
        have S1 : SR c O fp (upd H a (.frz od (.dK us))) ρ σ := S.seen (a := a) (fun b z => upd_ne z) (by rw [ha, upd_same]; exact sim_lock) na (.of ha)
        have rk1 : RDk c O (upd H a (.frz od (.dK us))) kvs us := rk.stb (seen_stb (a := a) (fun b z => upd_ne z) (by rw [ha, upd_same]; exact sim_lock))
        exact for_core og ob S1 (yl_keys upd_same nf rk1 S1.ow) (unlk S ha na h)
      | _ => cases hz
  · exact h.elim
end
end Vl

namespace Vl
open PySem PySem.Spec PyProof.Rows L2 He
section
variable {c : Vc} {X : Cx} {W : WX} {b : Bool} {bor vs : List Nat} {O O1 O2 O' : Addr → Prop} {fp fp0 fp1 fp2 fp' fq : List Addr} {H H1 H2 H' : Hp} {ρ ρ1 ρ2 ρ' : Env} {σ σ1 σ' : L2.St} {k i n : Nat} {α β : Type} {D1 : Ends} {a : Addr} {od : Obj} {us : List (Key × V)} {kvs : List (Key × D)}
variable {e e' o tg iter elt : Expr} {ifs : List Expr} {body : List Stmt} {st : Stmt} {pos p pos' apos p1 : Pos} {x : Str} {nm fl : Str} {gt : FT} {f : FS} {fe : FE} {ft : FG Bool}
/-! ### a list comprehension over the keys of a dict at rest -/
def vLcK (n : Nat) (i : Nat) (vs : List Nat) (gt : FT) (ft : FG Bool) (fe : FE) : FE := fun ρ => match ρ[i]? with
  | some (some (.fr (.dK kvs))) => if ρ.length ≤ n then match compD vs gt ft fe (keysL kvs) [] (wipeE ρ vs) with
    | some q => some (.val (.nw (.lst q.1)) q.2)
    | none => none
    else none
  | _ => none
def tLcK (i : Nat) (g : TG) (tt : TT) (te : TE) (vs : List Nat) : TE := fun σ H Q => tLockE (tLc (iKeys (tVar i)) g tt te vs) σ H Q ∨ tLc (iKeys (tVar i)) g tt te vs σ H Q
theorem ok_lcK (hxs : ∀ v ∈ vs, v ∉ c.xs.map (·.i)) (hgl : GLen gt) : Ok (RV c) c W false (vLcK n i vs gt ft fe) (tLcK i (cnG c (others n vs) gt) (cnT c W0 false ft) (cnE c W0 false fe) vs) := fun O fp H ρ σ Q S h => by
  unfold vLcK at h
  split at h
  case h_2 => exact h.elim
  rename_i kvs e1
  by_cases hn : ρ.length ≤ n
  case neg => rw [if_neg hn] at h; exact h.elim
  rw [if_pos hn] at h
  obtain ⟨v, fq, fl, fr, h1, h2, h3, _, _⟩ := S.rs.get e1
  obtain ⟨⟨a, us, rfl, ⟨hz, na⟩, rk⟩, _⟩ := h2
  have nf : a ∉ fp := fun z => na (S.ow a z)
  cases ec : compD vs gt ft fe (keysL kvs) [] (wipeE ρ vs) with
  | none => rw [ec] at h; exact h.elim
  | some pr =>
    rw [ec] at h
    cases ha : H a with
    | none => rw [ha] at hz; cases hz
    | some u =>
      rw [ha] at hz
      cases u with
      | frz od u' =>
        cases hz
        refine .inr ⟨_, h1, a, od, rfl, .inl ⟨us, ha, fun Dd hD => ?_⟩⟩
        refine lc_at hxs hgl S (yl_keys ha nf rk S.ow) hn ec hD fun H' O' fp' vacc S' E' oD nD eD rs' => ?_
        refine h (.ref Dd) H' O' fp' [Dd] S' E' (fun q => (by cases q)) ⟨⟨Dd, vacc, rfl, eD, rs', rfl⟩, by simp, fun a ha => ?_⟩ fun a ha => ?_
        · simp at ha; rw [ha]; exact ⟨oD, nD⟩
        · simp at ha; rw [ha]; exact .inl hD
      | dK us' =>
        cases hz
        refine .inl ⟨a, .dK us, ha, trivial, fun od => ⟨_, h1, a, od, rfl, .inl ⟨us, upd_same, fun Dd hD => ?_⟩⟩⟩
        have S1 : SR c O fp (upd H a (.frz od (.dK us))) ρ σ := S.seen (a := a) (fun b z => upd_ne z) (by rw [ha, upd_same]; exact sim_lock) na (.of ha)
        have rk1 : RDk c O (upd H a (.frz od (.dK us))) kvs us := rk.stb (seen_stb (a := a) (fun b z => upd_ne z) (by rw [ha, upd_same]; exact sim_lock))
        have nDa : Dd ≠ a := fun z => by rw [z, upd_same] at hD; cases hD
        refine lc_at (Q := fun v H' => H' a = some (.frz od (.dK us)) ∧ Q v (upd H' a (.dK us))) hxs hgl S1 (yl_keys upd_same nf rk1 S1.ow) hn ec hD fun H' O' fp' vacc S' E' oD nD eD rs' => ?_
        have ha' : H' a = some (.frz od (.dK us)) := (E'.kp a (.of upd_same) nf).trans upd_same
        have no : ¬ O' a := fun z => (E'.on a z).elim na fun q => by rw [upd_same] at q; cases q
        have nn : ∀ b, (upd H a (.frz od (.dK us))) b = none → H b = none := fun b e => by
          by_cases z : b = a
          · rw [z, upd_same] at e; cases e
          · rwa [upd_ne z] at e
        have S2 : SR c O' fp' (upd H' a (.dK us)) pr.2 σ := S'.seen (a := a) (fun b z => upd_ne z) (by rw [ha', upd_same]; exact sim_unlock) no (by rw [ha']; exact .of rfl)
        have E2 : Ext fp O H fp' O' (upd H' a (.dK us)) := by
          refine ⟨fun b hb n => ?_, fun b hb => ?_, fun b hb n => E'.ok b hb n, fun b hb => (E'.on b hb).imp id (nn b), fun b hb => (E'.fn b hb).imp id (nn b)⟩
          · by_cases z : b = a
            · rw [z, upd_same, ha]
            · rw [upd_ne z, E'.kp b (by rw [upd_ne z]; exact hb) n, upd_ne z]
          · by_cases z : b = a
            · rw [z, upd_same]; simp
            · rw [upd_ne z]; exact E'.th b (by rw [upd_ne z]; exact hb)
        refine ⟨ha', h (.ref Dd) _ O' fp' [Dd] S2 E2 (fun q => (by cases q)) ⟨⟨Dd, vacc, rfl, by rw [upd_ne nDa]; exact eD, rs'.stb (seen_stb (a := a) (fun b z => upd_ne z) (by rw [ha', upd_same]; exact sim_unlock)), rfl⟩, by simp, fun b hb => ?_⟩ fun b hb => ?_⟩
        · simp at hb; rw [hb]; exact ⟨oD, nD⟩
        · simp at hb; rw [hb]; exact .inl (nn Dd hD)
      | _ => cases hz
theorem x_lcK {scope : Scope} {own : List (Str × Nat)} {vs : List Nat} (n : Nat) (i : Nat) (hN : X.N.Nodup) (hv : own.map (·.2) = vs) (ok : blkC X.N X.env.scope scope own = true) (hgl : GLen gt)
    (hg : ∀ (s : Shared) (H : Hp) (C : Addr) (cl : List (Str × Addr)) (fp : List Addr), VG c (X.blk s H scope (compEnvC scope cl C X.env) fp) (others n vs) tg gt)
    (ht : ∀ (s : Shared) (H : Hp) (C : Addr) (cl : List (Str × Addr)) (fp : List Addr), VTs c (X.blk s H scope (compEnvC scope cl C X.env) fp) W0 false ifs ft)
    (he : ∀ (s : Shared) (H : Hp) (C : Addr) (cl : List (Str × Addr)) (fp : List Addr), VE c (X.blk s H scope (compEnvC scope cl C X.env) fp) W0 false elt fe)
    (hc : X.calm = true := by rfl) (hN1 : X.N[i]? = some x := by rfl) (hvi : Vis X.env.scope x := by first | exact Or.inl rfl | exact Or.inr (Or.inl rfl) | exact Or.inr (Or.inr rfl)) (hd : (x == ("__debug__" : Str)) = false := by decide)
    (hcd : (x == ("__classdict__" : Str)) = false := by decide) (hxs : ∀ v ∈ vs, v ∉ c.xs.map (·.i) := by exact nmAll rfl) (hs : ∀ y, foldedSetIterable (.Name x p) X.env y = pure y := by intro _; rfl) : VE c X W false (.ListComp elt [⟨tg, .Name x p, ifs, 0⟩] scope pos) (vLcK n i vs gt ft fe) := by
  subst hv
  have base := pe_lc hc hN (pi_keys (pv i hN1 hvi hd hcd)) (blkOk_by ok) (fun s H C cl fp => (hg s H C cl fp).cn) ht (fun s H C cl fp => (he s H C cl fp).cn) hs (pos := pos)
  exact ⟨_, pe_or (pe_lock base) base, ok_lcK hxs hgl⟩
theorem x_setLcK {scope : Scope} {own : List (Str × Nat)} {vs : List Nat} {l : Nat} {y : Str} {py spos : Pos} (n : Nat) (i : Nat) (hN : X.N.Nodup) (hv : own.map (·.2) = vs) (ok : blkC X.N X.env.scope scope own = true) (hgl : GLen gt)
    (hg : ∀ (s : Shared) (H : Hp) (C : Addr) (cl : List (Str × Addr)) (fp : List Addr), VG c (X.blk s H scope (compEnvC scope cl C X.env) fp) (others n vs) tg gt)
    (ht : ∀ (s : Shared) (H : Hp) (C : Addr) (cl : List (Str × Addr)) (fp : List Addr), VTs c (X.blk s H scope (compEnvC scope cl C X.env) fp) W0 false ifs ft)
    (he : ∀ (s : Shared) (H : Hp) (C : Addr) (cl : List (Str × Addr)) (fp : List Addr), VE c (X.blk s H scope (compEnvC scope cl C X.env) fp) W0 false elt fe)
    (hc : X.calm = true := by rfl) (hN1 : X.N[i]? = some x := by rfl) (hvi : Vis X.env.scope x := by first | exact Or.inl rfl | exact Or.inr (Or.inl rfl) | exact Or.inr (Or.inr rfl)) (hd : (x == ("__debug__" : Str)) = false := by decide)
    (hcd : (x == ("__classdict__" : Str)) = false := by decide) (hxs : ∀ v ∈ vs, v ∉ c.xs.map (·.i) := by exact nmAll rfl) (hs : ∀ y, foldedSetIterable (.Name x p) X.env y = pure y := by intro _; rfl)
    (hy : X.N[l]? = some y := by rfl) (hyl : X.env.scope.names.lookup y = some .local := by rfl) (hsw : swapsWith (.ListComp elt [⟨tg, .Name x p, ifs, 0⟩] scope pos) (some (.Name y py)) spos.line X.env = pure true := by exact sw_true rfl rfl rfl rfl)
    (hb : l ∉ bor := by decide) (hxi : l ∉ c.xs.map (·.i) := by exact nmIn rfl) : VS c X W bor (.Assign [.Name y py] (.ListComp elt [⟨tg, .Name x p, ifs, 0⟩] scope pos) spos) (sSet l (vLcK n i vs gt ft fe)) := by
  subst hv
  have base := ps_setLc hc hN hy hyl hsw (pi_keys (pv i hN1 hvi hd hcd)) (blkOk_by ok) (fun s H C cl fp => (hg s H C cl fp).cn) ht (fun s H C cl fp => (he s H C cl fp).cn) hs
  refine ⟨_, ps_or (ps_lock base) base, fun O fp H ρ σ D S h => ?_⟩
  exact (ok_lcK (n := n) (i := i) (gt := gt) (ft := ft) (fe := fe) (W := W) hxs hgl).stm S.tr S .refl .refl h fun x ρ1 u H1 O1 fp1 g1 S1 E1 _ _ R1 F1 h1 => kSet_ok hb hxi h1 S1 E1 R1 F1
/-! ### one's own dict stands still while a statement runs -/
mutual
/-- no dict in it -/
def D.cl : D → Bool
  | .tup xs => D.cls xs | .lst xs => D.cls xs | .ktup xs => D.cls xs | .klst xs => D.cls xs
  | .dK _ => false | .dT _ => false
  | .obj _ fs => D.clf fs
  | _ => true
def D.cls : List D → Bool
  | [] => true
  | d :: ds => d.cl && D.cls ds
def D.clf : List (Str × D) → Bool
  | [] => true
  | (_, d) :: ds => d.cl && D.clf ds
end
def D.clk : List (Key × D) → Bool
  | [] => true
  | (_, d) :: ds => d.cl && D.clk ds
def T.cl : T → Bool
  | .fr d => d.cl
  | .lst xs => D.cls xs
  | .dK kvs => D.clk kvs
  | .hole => true
  | _ => false
def clE : Env → Bool
  | [] => true
  | none :: r => clE r
  | some t :: r => t.cl && clE r
mutual
theorem RD.back (hd : H a = some (.dK us)) : ∀ {d : D} {v : V}, RD c O H d v → d.cl = true → RD c (fun b => O b ∨ b = a) H d v
  | .non, _, h, _ => h | .bl _, _, h, _ => h | .int _, _, h, _ => h | .str _, _, h, _ => h | .con _, _, h, _ => h | .ty _, _, h, _ => h
  | .tup xs, _, ⟨q, ws, e, h, r⟩, k => ⟨q, ws, e, ⟨h.1, fun z => z.elim h.2 fun z => by have h := h.1; rw [z, hd] at h; cases h⟩, RDs.back hd r (by simpa [D.cl] using k)⟩
  | .lst xs, _, ⟨q, ws, e, h, r⟩, k => ⟨q, ws, e, ⟨h.1, fun z => z.elim h.2 fun z => by have h := h.1; rw [z, hd] at h; cases h⟩, RDs.back hd r (by simpa [D.cl] using k)⟩
  | .ktup xs, _, ⟨q, ws, e, h, r⟩, k => ⟨q, ws, e, h, RDs.back hd r (by simpa [D.cl] using k)⟩
  | .klst xs, _, ⟨q, ws, e, h, r⟩, k => ⟨q, ws, e, h.imp id (fun f => ⟨f.1, fun z => z.elim f.2 fun z => by have h := f.1; rw [z, hd] at h; cases h⟩), RDs.back hd r (by simpa [D.cl] using k)⟩
  | .dK _, _, _, k => by cases k
  | .dT _, _, _, k => by cases k
  | .obj _ _, _, ⟨q, dx, ws, e, h, r⟩, k => ⟨q, dx, ws, e, ⟨h.1, fun z => z.elim h.2 fun z => by have h := h.1; rw [z, hd] at h; cases h⟩, RDf.back hd r (by simpa [D.cl] using k)⟩
  | .hole, _, _, _ => trivial
theorem RDs.back (hd : H a = some (.dK us)) : ∀ {d : List D} {v : List V}, RDs c O H d v → D.cls d = true → RDs c (fun b => O b ∨ b = a) H d v
  | [], _, h, _ => h
  | _ :: _, _, ⟨v, r, e, h, t⟩, k => by
    have k := Bool.and_eq_true_iff.mp (by simpa [D.cls] using k)
    exact ⟨v, r, e, h.back hd k.1, RDs.back hd t k.2⟩
theorem RDf.back (hd : H a = some (.dK us)) : ∀ {d : List (Str × D)} {v : List (Str × V)}, RDf c O H d v → D.clf d = true → RDf c (fun b => O b ∨ b = a) H d v
  | [], _, h, _ => h
  | (_, _) :: _, _, ⟨v, r, e, h, t⟩, k => by
    have k := Bool.and_eq_true_iff.mp (by simpa [D.clf] using k)
    exact ⟨v, r, e, h.back hd k.1, RDf.back hd t k.2⟩
end
theorem RDk.back (hd : H a = some (.dK us)) : ∀ {d : List (Key × D)} {v : List (Key × V)}, RDk c O H d v → D.clk d = true → RDk c (fun b => O b ∨ b = a) H d v
  | [], _, h, _ => h
  | (_, _) :: _, _, ⟨v, r, e, h, t⟩, k => by
    have k := Bool.and_eq_true_iff.mp (by simpa [D.clk] using k)
    exact ⟨v, r, e, h.back hd k.1, RDk.back hd t k.2⟩
theorem RT.back (hd : H a = some (.dK us)) : ∀ {t : T} {v : V} {f : List Addr}, RT c O H t v f → t.cl = true → RT c (fun b => O b ∨ b = a) H t v f
  | .fr _, _, _, ⟨h, e⟩, k => ⟨h.back hd k, e⟩
  | .lst _, _, _, ⟨q, ws, e, h, r, ef⟩, k => ⟨q, ws, e, h, r.back hd k, ef⟩
  | .dK _, _, _, ⟨q, ws, e, h, r, ef⟩, k => ⟨q, ws, e, h, r.back hd k, ef⟩
  | .dT _, _, _, _, k => by cases k
  | .obj _ _, _, _, _, k => by cases k
  | .tl _, _, _, _, k => by cases k
  | .hole, _, _, h, _ => h
theorem RS.back (hd : H a = some (.dK us)) : ∀ {ρ : Env} {σ : L2.St} {f : List Addr}, RS c O H ρ σ f → clE ρ = true → RS c (fun b => O b ∨ b = a) H ρ σ f
  | [], _, _, h, _ => h
  | none :: _, _, _, ⟨s', r, e, h⟩, k => ⟨s', r, e, RS.back hd h k⟩
  | some _ :: _, _, _, ⟨v, r, f1, f2, e, h, t, ef⟩, k => by
    have k := Bool.and_eq_true_iff.mp (by simpa [clE] using k)
    exact ⟨v, r, f1, f2, e, h.back hd k.1, RS.back hd t k.2, ef⟩
/-- slot i's own dict is at rest while f runs; behind it no slot but i may hold a dict at rest -/
def sThaw (i : Nat) (f : FS) : FS := fun ρ => match ρ[i]? with
  | some (some (.dK kvs)) => match f (ρ.set i (some (.fr (.dK kvs)))) with
    | some (.nx ρ') => if clE (ρ'.set i none) = true then some (.nx (ρ'.set i (some (.dK kvs)))) else none
    | _ => none
  | _ => none
theorem vs_thaw (i : Nat) (h : VS c X W (i :: bor) st f) (hxs : c.xs = [] := by rfl) : VS c X W bor st (sThaw i f) := by
  obtain ⟨s, p, ok⟩ := h
  refine ⟨s, p, fun O fp H ρ σ D1 S h => ?_⟩
  unfold sThaw at h
  split at h
  case h_2 => exact h.elim
  rename_i kvs e1
  obtain ⟨v, g, fp0, q1, q2, q3, q4, q5, q6, q7, S0⟩ := hold S (by rw [hxs]; simp) e1
  obtain ⟨a, us, ev, ha, rk, eg⟩ := id q2
  have na : a ∉ fp0 := q6 a (by rw [eg]; simp)
  have oa : O a := q4 a (by rw [eg]; simp)
  let O1 : Addr → Prop := fun b => O b ∧ b ∉ [a]
  have S1 : SR c O1 fp0 H (ρ.set i none) σ := S0.less fun b hb z => na (by simp at hb; rw [← hb]; exact z)
  have hi : i < (ρ.set i none).length := by
    rw [List.length_set]
    exact (List.getElem?_eq_some_iff.mp e1).1
  have R1 : RT c O1 H (.fr (.dK kvs)) v [] := ⟨⟨a, us, ev, ⟨by rw [ha]; rfl, fun z => z.2 (by simp)⟩, rk.stb (.less fun b z => z.1)⟩, rfl⟩
  obtain ⟨fp1, S2, k2⟩ := S1.put (i := i) (.inr q1) hi R1 (by simp) (fun b hb => by cases hb)
  rw [set_same q1, List.set_set] at S2
  have sub1 : ∀ b ∈ fp1, b ∈ fp0 := fun b hb => (k2 b hb).elim id fun z => by cases z
  refine ok O1 fp1 H _ σ D1 S2 ?_
  revert h
  cases f (ρ.set i (some (.fr (.dK kvs)))) with
  | none => exact fun h => h.elim
  | some r =>
    cases r with
    | nx ρ5 =>
      intro h σ' H' O' fp' S' E' B'
      simp only at h
      split at h
      case isFalse => exact h.elim
      rename_i hcl
      have hv' : σ'[i]? = some (some v) := (B' i (by simp)).trans q1
      have ha' : H' a = some (.dK us) := (E'.kp a (.of ha) fun z => na (sub1 a z)).trans ha
      have no' : ¬ O' a := fun z => (E'.on a z).elim (fun w => w.2 (by simp)) fun w => by rw [ha] at w; cases w
      have hi5 : i < ρ5.length := by rw [← S'.rs.len]; exact (List.getElem?_eq_some_iff.mp hv').1
      -- slot i is let go
      have R0 : RT c O' H' (.hole) v [] := rfl
      obtain ⟨fp2, S3, k3⟩ := S'.put (i := i) (.inr hv') hi5 R0 (by simp) (fun b hb => by cases hb)
      rw [set_same hv'] at S3
      have cl2 : clE (ρ5.set i (some .hole)) = true := by
        have aux : ∀ (l : Env) (j : Nat), clE (l.set j none) = true → clE (l.set j (some .hole)) = true := by
          intro l
          induction l with
          | nil => intro j h; simpa using h
          | cons o l ih =>
            intro j h
            cases j with
            | zero => simpa [clE, T.cl] using h
            | succ j =>
              cases o with
              | none => exact ih j (by simpa [clE] using h)
              | some t =>
                have h := Bool.and_eq_true_iff.mp (by simpa [clE] using h)
                simp [clE, h.1, ih j h.2]
        exact aux ρ5 i hcl
      let O3 : Addr → Prop := fun b => O' b ∨ b = a
      have S4 : SR c O3 fp2 H' (ρ5.set i (some .hole)) σ' := ⟨RS.back ha' S3.rs cl2, S3.nd, fun b hb => .inl (S3.ow b hb), fun b hb => hb.elim (S3.tr b) fun z => by rw [z]; exact .of ha', S3.tb, fun q hq => by rw [hxs] at hq; cases hq⟩
      have st : Stb O H O3 H' := ⟨fun b n hb => (E'.stb S2.ow).1 b (fun z => n z.1) hb, fun b hb => hb.elim (fun z => (E'.on b z).imp (·.1) id) fun z => .inl (by rw [z]; exact oa)⟩
      have R3 : RT c O3 H' (.dK kvs) v [a] := ⟨a, us, ev, ha', rk.stb st, rfl⟩
      obtain ⟨fp3, S5, k5⟩ := S4.put (i := i) (.inr hv') (by rw [List.length_set]; exact hi5) R3 (by simp) (fun b hb => by
        have hb : b = a := by simpa using hb
        subst hb
        exact ⟨.inr rfl, fun z => no' (S3.ow _ z)⟩)
      rw [set_same hv', List.set_set] at S5
      refine h σ' H' O3 fp3 S5 ⟨fun b hb n => E'.kp b hb fun z => n (q7 b (sub1 b z)), E'.th, fun b hb n => ?_, fun b hb => hb.elim (fun z => (E'.on b z).imp (·.1) id) fun z => .inl (by rw [z]; exact oa), fun b hb => ?_⟩ fun j hj => B' j (by simp [hj])
      · by_cases z : b = a
        · exact .inr z
        · exact .inl (E'.ok b ⟨hb, by simpa using z⟩ fun w => n (q7 b (sub1 b w)))
      · rcases k5 b hb with z | z
        · exact (E'.fn b ((k3 b z).elim id fun w => by cases w)).imp (fun w => q7 b (sub1 b w)) id
        · exact .inl (q5 b (by rw [eg]; exact z))
    | _ => exact fun h => h.elim
end
end Vl

namespace Vl
open PySem PySem.Spec PyProof.Rows L2 He
section
variable {c : Vc} {X : Cx} {W : WX} {b : Bool} {bor vs : List Nat} {O O1 O2 O' : Addr → Prop} {fp fp0 fp1 fp2 fp' fq : List Addr} {H H1 H2 H' : Hp} {ρ ρ1 ρ2 ρ' : Env} {σ σ1 σ' : L2.St} {k i n : Nat} {α β : Type}
variable {e elt ke tg iter o : Expr} {es ifs : List Expr} {fe fa fk : FE} {ft : FG Bool} {pos p pos' apos cpos p1 p2 : Pos} {gt : FT} {x : Str} {nm fl : Str} {fs : FG (List Val)}
/-! ### {key: elt for tg in iter} -/
def stepK (vs : List Nat) (gt : FT) (ft : FG Bool) (fk fe : FE) (d : D) (ρ : Env) : Option (Option (Key × D) × Env) := match gt d ρ with
  | none => none
  | some ρ1 => match ft ρ1 with
    | some (.val true ρ2) => match fk ρ2 with
      | some (.val (.fr dk) ρ3) => match keyD dk, fe ρ3 with
        | some kk, some (.val w ρ4) => (fz w).map fun dv => (some (kk, dv), wipeE ρ4 vs)
        | _, _ => none
      | _ => none
    | some (.val false ρ2) => some (none, wipeE ρ2 vs)
    | _ => none
def compK (vs : List Nat) (gt : FT) (ft : FG Bool) (fk fe : FE) : List D → List (Key × D) → Env → Option (List (Key × D) × Env)
  | [], acc, ρ => some (acc, ρ)
  | d :: ds, acc, ρ => match stepK vs gt ft fk fe d ρ with
    | some (some kv, ρ') => if szL acc.length then compK vs gt ft fk fe ds (pD acc kv.1 kv.2) ρ' else none
    | some (none, ρ') => compK vs gt ft fk fe ds acc ρ'
    | none => none
theorem stepK_some {d : D} {r : Option (Key × D) × Env} (h : stepK vs gt ft fk fe d ρ = some r) : ∃ ρ1 k ρ2, gt d ρ = some ρ1 ∧ ft ρ1 = some (.val k ρ2) ∧ ((k = true ∧ ∃ dk kk ρ3 w ρ4 dv, fk ρ2 = some (.val (.fr dk) ρ3) ∧ keyD dk = some kk ∧ fe ρ3 = some (.val w ρ4) ∧ fz w = some dv ∧ r = (some (kk, dv), wipeE ρ4 vs)) ∨ (k = false ∧ r = (none, wipeE ρ2 vs))) := by
  unfold stepK at h
  cases e1 : gt d ρ with
  | none => rw [e1] at h; cases h
  | some ρ1 =>
    rw [e1] at h
    simp only at h
    split at h
    · rename_i ρ2 e2
      split at h
      · rename_i dk ρ3 e3
        split at h
        · rename_i kk w ρ4 e4 e5
          obtain ⟨dv, e6, e7⟩ := Option.map_eq_some_iff.mp h
          exact ⟨ρ1, true, ρ2, rfl, e2, .inl ⟨rfl, dk, kk, ρ3, w, ρ4, dv, e3, e4, e5, e6, e7.symm⟩⟩
        · cases h
      · cases h
    · rename_i ρ2 e2
      cases h
      exact ⟨ρ1, false, ρ2, rfl, e2, .inr ⟨rfl, rfl⟩⟩
    · cases h
def dcInv (c : Vc) (vs : List Nat) (gt : FT) (ft : FG Bool) (fk fe : FE) (σ : L2.St) (fp1 : List Addr) (O1 : Addr → Prop) (H1 : Hp) (D : Addr) (ds : List Vl.D) (p : List (Key × Vl.D) × Env) (i : Nat) (H' : Hp) : Prop :=
  i ≤ ds.length ∧ ∃ O' fp' ρ0 acc vacc, SR c O' fp' H' (wipeE ρ0 vs) (wipe σ vs) ∧ Ext fp1 O1 H1 fp' O' H' ∧ O' D ∧ D ∉ fp' ∧ H' D = some (.dK vacc) ∧ RDk c O' H' acc vacc ∧ compK vs gt ft fk fe (ds.drop i) acc (wipeE ρ0 vs) = some p
theorem dc_at {Dd : Addr} {J : It} {ds : List D} {pr : List (Key × D) × Env} {Q : V → Hp → Prop} (hx : ∀ v ∈ vs, v ∉ c.xs.map (·.i)) (hgl : GLen gt) (S1 : SR c O1 fp1 H1 ρ1 σ) (Y : Yl c J ds O1 fp1 H1) (hn : ρ1.length ≤ n) (ec : compK vs gt ft fk fe ds [] (wipeE ρ1 vs) = some pr) (hD : H1 Dd = none)
    (fin : ∀ H' O' fp' vacc, SR c O' fp' H' pr.2 σ → Ext fp1 O1 H1 fp' O' H' → O' Dd → Dd ∉ fp' → H' Dd = some (.dK vacc) → RDk c O' H' pr.1 vacc → Q (.ref Dd) H') :
    ∃ V : Nat → Nat → Hp → Prop, (∃ m, V 0 m (upd H1 Dd (.dK []))) ∧ ∀ i m H, V i m H → (J.stop i H ∧ Q (.ref Dd) H) ∨ (J.go i H ∧ ∃ Nx : Hp → Prop, (∀ H', Nx H' → ∃ m', m' < m ∧ V (i + 1) m' H') ∧ ∀ x H', J.yld i H x H' → cnG c (others n vs) gt x (wipe σ vs) H' fun σ2 H2 => wipe σ2 vs = wipe σ vs ∧ cnT c W0 false ft σ2 H2 fun b H3 =>
      if b = true then cnE c W0 false fk σ2 H3 fun y H4 => cnE c W0 false fe σ2 H4 fun z H5 => ∃ kvs k, y = kV k ∧ H5 Dd = some (.dK kvs) ∧ kvs.length < sizeLine ∧ Nx (upd H5 Dd (.dK (putK kvs k z))) else Nx H3) := by
  have hl : σ.length ≤ n := by rw [S1.rs.len]; exact hn
  have nD : ¬ nT (H1 Dd) := fun q => q.ne hD
  refine ⟨fun i m H' => m = ds.length - i ∧ dcInv c vs gt ft fk fe σ fp1 O1 H1 Dd ds pr i H', ⟨_, rfl, Nat.zero_le _, ?_⟩, ?_⟩
  · have S2 := S1.grow (g := [Dd]) (H' := upd H1 Dd (.dK [])) (fun b hb => upd_ne fun q => hb (by rw [q]; exact hD)) (fun a ha => by simp at ha; rw [ha]; exact ⟨hD, .of upd_same⟩)
    obtain ⟨fp2, S3, k3⟩ := S2.wip (vs := vs) hx
    have nf : Dd ∉ fp1 := fun q => nD (S1.tr Dd (S1.ow Dd q))
    refine ⟨_, fp2, ρ1, [], [], S3, ⟨fun b hb _ => upd_ne fun q => nD (q ▸ hb), fun b hb => ?_, fun b hb _ => .inl hb, fun b hb => hb.imp id fun q => (by simp at q; rw [q]; exact hD), fun b hb => .inl (k3 b hb)⟩, .inr (by simp), fun q => nf (k3 Dd q), upd_same, (rfl : ([] : List (Key × V)) = []), ec⟩
    by_cases z : b = Dd
    · rw [z, upd_same]; simp
    · rw [upd_ne z]; exact hb
  · rintro i m H' ⟨rfl, hi, O', fp', ρ0, acc, vacc, S', E', oD, nf, eD, rs, ek⟩
    by_cases hlt : i < ds.length
    · have ed := List.getElem?_eq_getElem hlt
      obtain ⟨go, yl⟩ := Y.go O' fp' H' i _ E' S'.ow S'.tr ed
      refine .inr ⟨go, fun H2 => dcInv c vs gt ft fk fe σ fp1 O1 H1 Dd ds pr (i + 1) H2, fun H2 q => ⟨ds.length - (i + 1), by omega, rfl, q⟩, fun x H3 y => ?_⟩
      obtain ⟨kp, rd⟩ := yl x H3 y
      have S3 : SR c O' fp' H3 (wipeE ρ0 vs) (wipe σ vs) := ⟨S'.rs.stb (.of (fun a _ h => kp a h.ne) fun a h => .inl h) fun a ha => kp a (S'.tr a (S'.ow a ha)).ne, S'.nd, S'.ow, fun b h => by rw [kp b (S'.tr b h).ne]; exact S'.tr b h, fun P hP => by
        obtain ⟨ps, e, k⟩ := S'.tb P hP
        exact ⟨ps, by rw [kp P (by rw [e]; simp)]; exact e, k⟩, fun p hp => (S'.px p hp).stb (.of (fun a _ h => kp a h.ne) fun a h => .inl h)⟩
      have E3 : Ext fp' O' H' fp' O' H3 := ⟨fun b h _ => kp b h.ne, fun b h => by rw [kp b h]; exact h, fun _ h _ => h, fun _ h => .inl h, fun _ h => .inl h⟩
      rw [List.drop_eq_getElem_cons hlt] at ek
      unfold compK at ek
      cases es : stepK vs gt ft fk fe ds[i] (wipeE ρ0 vs) with
      | none => rw [es] at ek; cases ek
      | some r =>
        rw [es] at ek
        obtain ⟨ρ1', kb, ρ2, e1, e2, e3⟩ := stepK_some es
        refine ⟨O', fp', _, _, ρ1', S3, rd, e1, fun σ4 fp4 S4 k4 B4 => ?_⟩
        have hw4 : wipe σ4 vs = wipe σ vs := by
          have l4 : σ4.length = σ.length := by
            have h1 := S4.rs.len
            have h2 := S3.rs.len
            rw [wipe_length] at h2
            have h3 := hgl _ _ _ e1
            omega
          rw [← wipe_wipe (σ := σ)]
          refine wipe_ext (by rw [wipe_length]; exact l4) fun j hj m => B4 j ?_
          rw [wipe_length] at hj
          unfold others
          rw [List.mem_filter, List.mem_range]
          exact ⟨by omega, by simpa using m⟩
        refine ⟨hw4, O', fp4, ρ1', S4, ?_⟩
        rw [e2]
        intro u H4 O4 fp5 g S5 E5 I5 R5 F5
        obtain ⟨rfl, _⟩ := R5
        have E14 : Ext fp1 O1 H1 fp4 O' H3 := E'.trans ⟨E3.kp, E3.th, E3.ok, E3.on, fun a ha => .inl (k4 a ha)⟩ S1.tr
        have E15 := E14.trans E5 S1.tr
        have d3 : H3 Dd = some (.dK vacc) := (kp Dd (by rw [eD]; simp)).trans eD
        have nf4 : Dd ∉ fp4 := fun q => nf (k4 Dd q)
        have d4 : H4 Dd = some (.dK vacc) := (E5.kp Dd (.of d3) nf4).trans d3
        have o4 : O4 Dd := E5.ok Dd oD nf4
        have nf5 : Dd ∉ fp5 := fun q => (E5.fn Dd q).elim nf4 fun z => by rw [d3] at z; cases z
        have rs3 : RDk c O' H3 acc vacc := rs.stb (E3.stb S'.ow)
        have rs4 : RDk c O4 H4 acc vacc := rs3.stb (E5.stb S4.ow)
        rcases e3 with ⟨rfl, dk, kk, ρ3, w, ρ4, dv, e4, e4k, e5, e6, rfl⟩ | ⟨rfl, rfl⟩
        · rw [if_pos rfl]
          refine ⟨O4, fp5, ρ2, S5, ?_⟩
          rw [e4]
          intro yk Hk Ok fpk gk Sk Ek _ Rk Fk
          have dk' : Hk Dd = some (.dK vacc) := (Ek.kp Dd (.of d4) nf5).trans d4
          have ok' : Ok Dd := Ek.ok Dd o4 nf5
          have nfk : Dd ∉ fpk := fun q => (Ek.fn Dd q).elim nf5 fun z => by rw [d4] at z; cases z
          have rsk : RDk c Ok Hk acc vacc := rs4.stb (Ek.stb S5.ow)
          have eyk : yk = kV kk := keyD_ok Rk.1.pk e4k
          refine ⟨Ok, fpk, ρ3, Sk, ?_⟩
          rw [e5]
          intro y H6 O6 fp6 g6 S6 E6 _ R6 F6
          have d6 : H6 Dd = some (.dK vacc) := (E6.kp Dd (.of dk') nfk).trans dk'
          have o6 : O6 Dd := E6.ok Dd ok' nfk
          have nf6 : Dd ∉ fp6 := fun q => (E6.fn Dd q).elim nfk fun z => by rw [dk'] at z; cases z
          have ng6 : Dd ∉ g6 := fun q => (F6 Dd q).elim (fun z => by rw [dk'] at z; cases z) nfk
          have rs6 : RDk c O6 H6 acc vacc := rsk.stb (E6.stb Sk.ow)
          have RR := R6.rest (O1 := fun a => O6 a ∧ a ∉ g6) e6 (fun a q => q.1) (fun a ha q => q.2 ha)
          have S7 := S6.less fun a ha => (R6.own a ha).2
          have E7 := (E15.trans Ek S1.tr).trans (E6.less Sk.tr F6) S1.tr
          have o7 : O6 Dd ∧ Dd ∉ g6 := ⟨o6, ng6⟩
          by_cases hz : szL acc.length = true
          · simp only [if_pos hz] at ek
            refine ⟨vacc, kk, eyk, d6, by rw [rs.len]; exact szL_ok hz, ?_⟩
            have S8 := S7.updO (D := Dd) (o := .dK (putK vacc kk y)) o7 nf6 d6 rfl rfl
            obtain ⟨fp9, S9, k9⟩ := S8.wip (vs := vs) hx
            rw [hw4] at S9
            have st : Stb (fun a => O6 a ∧ a ∉ g6) H6 (fun a => O6 a ∧ a ∉ g6) (upd H6 Dd (.dK (putK vacc kk y))) := upd_stbO (O := fun a => O6 a ∧ a ∉ g6) o7
            refine ⟨hlt, _, fp9, ρ4, pD acc kk dv, putK vacc kk y, S9, ⟨fun b hb n => ?_, fun b hb => ?_, E7.ok, E7.on, fun b hb => E7.fn b (k9 b hb)⟩, o7, fun q => nf6 (k9 Dd q), upd_same, ((rs6.stb (.less fun a q => q.1)).put kk RR).stb st, ek⟩
            · have z : b ≠ Dd := fun z => nD (z ▸ hb)
              rw [upd_ne z]; exact E7.kp b hb n
            · by_cases z : b = Dd
              · rw [z, upd_same]; simp
              · rw [upd_ne z]; exact E7.th b hb
          · simp only [if_neg hz] at ek
            cases ek
        · rw [if_neg Bool.false_ne_true]
          obtain ⟨fp9, S9, k9⟩ := S5.wip (vs := vs) hx
          rw [hw4] at S9
          exact ⟨hlt, O4, fp9, ρ2, acc, vacc, S9, ⟨E15.kp, E15.th, E15.ok, E15.on, fun b hb => E15.fn b (k9 b hb)⟩, o4, fun q => nf5 (k9 Dd q), d4, rs4, ek⟩
    · have ei : i = ds.length := by omega
      subst ei
      rw [List.drop_length] at ek
      unfold compK at ek
      cases ek
      exact .inl ⟨Y.stop O' fp' H' E' S'.tr, fin H' O' fp' vacc (S'.back hx wipe_wipe) E' oD nf eD rs⟩

def vDc (n : Nat) (vs : List Nat) (fi : FG (List D)) (gt : FT) (ft : FG Bool) (fk fe : FE) : FE := bnd fi fun ds ρ => if ρ.length ≤ n then match compK vs gt ft fk fe ds [] (wipeE ρ vs) with
    | some p => some (.val (.nw (.dK p.1)) p.2)
    | none => none
  else none
theorem ok_dc {wi : TI} {fi : FG (List D)} {n : Nat} (hx : ∀ v ∈ vs, v ∉ c.xs.map (·.i)) (hgl : GLen gt) (hi : OkI c W fi wi) : Ok (RV c) c W false (vDc n vs fi gt ft fk fe) (tDc wi (cnG c (others n vs) gt) (cnT c W0 false ft) (cnE c W0 false fk) (cnE c W0 false fe) vs) := fun O fp H ρ σ Q S h => by
  refine hi O fp H ρ σ _ S ?_
  unfold vDc bnd at h
  revert h
  cases fi ρ with
  | none => exact fun h => h
  | some o =>
    cases o with
    | exc x ρ' => exact fun h => h
    | val ds ρ1 =>
      intro h J H1 O1 fp1 S1 E1 Y Dd hD
      simp only at h
      by_cases hn : ρ1.length ≤ n
      case neg => rw [if_neg hn] at h; exact h.elim
      rw [if_pos hn] at h
      cases ec : compK vs gt ft fk fe ds [] (wipeE ρ1 vs) with
      | none => rw [ec] at h; exact h.elim
      | some pr =>
        rw [ec] at h
        refine dc_at hx hgl S1 Y hn ec hD fun H' O' fp' vacc S' E' oD nD eD rs' => ?_
        refine h (.ref Dd) H' O' fp' [Dd] S' (E1.trans E' S.tr) (fun q => (by cases q)) ⟨⟨Dd, vacc, rfl, eD, rs', rfl⟩, by simp, fun a ha => ?_⟩ fun a ha => ?_
        · simp at ha; rw [ha]; exact ⟨oD, nD⟩
        · simp at ha; rw [ha]; exact .inl (Classical.byContradiction fun z => E1.th Dd z hD)
theorem x_dc {scope : Scope} {own : List (Str × Nat)} {vs : List Nat} {fi : FG (List D)} (n : Nat) (hN : X.N.Nodup) (hv : own.map (·.2) = vs) (hi : VI c X W tg iter fi) (ok : blkC X.N X.env.scope scope own = true) (hgl : GLen gt)
    (hg : ∀ (s : Shared) (H : Hp) (C : Addr) (cl : List (Str × Addr)) (fp : List Addr), VG c (X.blk s H scope (compEnvC scope cl C X.env) fp) (others n vs) tg gt)
    (ht : ∀ (s : Shared) (H : Hp) (C : Addr) (cl : List (Str × Addr)) (fp : List Addr), VTs c (X.blk s H scope (compEnvC scope cl C X.env) fp) W0 false ifs ft)
    (hk : ∀ (s : Shared) (H : Hp) (C : Addr) (cl : List (Str × Addr)) (fp : List Addr), VE c (X.blk s H scope (compEnvC scope cl C X.env) fp) W0 false ke fk)
    (he : ∀ (s : Shared) (H : Hp) (C : Addr) (cl : List (Str × Addr)) (fp : List Addr), VE c (X.blk s H scope (compEnvC scope cl C X.env) fp) W0 false elt fe)
    (hc : X.calm = true := by rfl) (hxs : ∀ v ∈ vs, v ∉ c.xs.map (·.i) := by exact nmAll rfl) (hs : ∀ x, foldedSetIterable iter X.env x = pure x := by intro _; rfl) : VE c X W false (.DictComp ke elt [⟨tg, iter, ifs, 0⟩] scope pos) (vDc n vs fi gt ft fk fe) := by
  subst hv
  obtain ⟨wi, pi, oi⟩ := hi
  exact ⟨_, pe_dc hc hN pi (blkOk_by ok) (fun s H C cl fp => (hg s H C cl fp).cn) ht (fun s H C cl fp => (hk s H C cl fp).cn) (fun s H C cl fp => (he s H C cl fp).cn) hs, ok_dc hxs hgl oi⟩
end
end Vl

namespace Vl
open PySem PySem.Spec PyProof.Rows L2 He
/-! ### set(xs) of a list of ints, sorted(set(xs)): any number -/
abbrev sOb (w : World) : Obj := { cls := .type "set", dict := none, data := .set #[] 0 (.fresh 0 0 (!w.params.followText "set-order")) }
section
variable {P : Program} {w : World} {A : Around} {E : Value → Shared → Prop} {s : Shared}
/-- the new set, what became of the heap -/
def MadeS (w : World) (s : Shared) (ns : List Int) (h' : Heap) (m : Nat) : Prop :=
  SetR w h' s.heap.objs.size (fun j => decide (j ∈ ns)) m ∧ m ≤ ns.length ∧ ∀ b o, s.heap.get? b = some o → h'.get? b = some o
theorem set_list {l : Addr} {its : Array Value} (ns : List Int) {Q : Value → Shared → Prop} (calm : A.handled = none) (isl : s.heap.IsList l its) (are : IntsAre its.toList ns) (few : ns.length + 1 < scanBound)
    (fin : ∀ (h' : Heap) (tk m : Nat), MadeS w s ns h' m → Q (.ref s.heap.objs.size) { s with heap := h', toks := tk }) : wpAny (model P w) A (call (.type "set") [.ref l]) Q E s := by
  have len : its.size = ns.length := by have q := are.length; simpa using q
  obtain ⟨_, _, k1⟩ := F.called_set.mro; have k2 := F.called_set.made; have k3 := F.called_set.sub
  refine wpAny_call (codeAny_of_tree ?_); show wpAny _ _ (callAny (.type "set") _) _ _ _
  refine wpAny_pure ⟨Code.quiet_builtin _ (by decide +kernel), codeAny_builtin F.entry_type_call ?_⟩; rw [Around.under_plain (weight_type_call_type "set" [.ref l] []) rfl]
  have k4 := F.called_set.notType; have k5 := F.called_set.canCreate; have k6 := F.typeCall_set_1 (.ref l)
  repeat any_goals first | assumption | wp_step
  refine codeAny_mono (code_set_led1 (.ref l) (E := E) (Q₁ := fun x s1 => x = .ref s.heap.objs.size ∧ s1 = { s with heap := s.heap.push (sOb w) }) ⟨rfl, rfl⟩) fun r s1 hr => ?_
  match r, hr with
  | .error _, hr => exact hr
  | .ok .next, hr => exact hr.elim
  | .ok .brk, hr => exact hr.elim
  | .ok .cont, hr => exact hr.elim
  | .ok (.ret x), hr =>
    obtain ⟨rfl, rfl⟩ := hr
    have g0 : (s.heap.push (sOb w)).get? s.heap.objs.size = some (sOb w) := Heap.get?_push_size _ rfl
    have g1 : Shared.TypeIs { s with heap := s.heap.push (sOb w) } (.ref s.heap.objs.size) "set" := ⟨_, g0, rfl⟩
    have g2 := F.called_set.init.lookup; have g3 := F.called_set.init.bind (.ref s.heap.objs.size)
    repeat any_goals first | assumption | wp_step
    refine codeAny_mono (codeAny_call_builtin (R := wants (fun r s2 => r = .none ∧ ∃ h' tk m, s2 = { s with heap := h', toks := tk } ∧ MadeS w s ns h' m) E) F.called_set.init.plain F.entry_set_init (check_set_init_1 g1 ?_)) fun r2 s2 hr2 => ?_
    · obtain ⟨⟨oc, od, odt, osl⟩, ol, e1, nl, e2⟩ := isl
      dsimp only at e1 e2; subst e1 e2
      have ol1 := Heap.get?_push_of_some (sOb w) ol
      have u1 := F.sub_list_set; have u2 := F.sub_list_frozenset
      have u3 : (Value.type "list" == Value.type "dict") = false := by decide
      have isl1 : (s.heap.push (sOb w)).IsList l its := ⟨_, ol1, rfl, nl, rfl⟩
      unfold Builtin.«set.__init__» noKeywords Builtin.Frozenset.updateFrom; generalize hPI : pyIter = PI; wp_walk; subst hPI
      refine wpAny_pyIter_list isl1 (wpAny_bind (wpAny_runValue ?_))
      have lt := Heap.lt_size ol
      have hh3 : A.in1.in1.in1.handled = none := by simp [calm]
      have sz : (s.heap.push (sOb w)).objs.size = s.heap.objs.size + 1 := Heap.size_push ..
      have nI : l ≠ (s.heap.push (sOb w)).objs.size := by rw [sz]; exact Nat.ne_of_lt (Nat.lt_succ_of_lt lt)
      have nS : s.heap.objs.size ∉ [(s.heap.push (sOb w)).objs.size, l] := by rw [sz]; simp only [List.mem_cons, List.not_mem_nil, or_false, not_or]; exact ⟨Nat.ne_of_lt (Nat.lt_succ_self _), Nat.ne_of_gt lt⟩
      refine set_update_ints ((Walks.list hh3 _ l nI its).toS) s.heap.objs.size nS ns len few (fun i v hv => ?_) (its.size - 0) 0 _ (by omega) (Nat.zero_le _) ⟨⟨_, Heap.get?_push_size _ rfl, rfl, rfl⟩, (isl1.push _)⟩
        ⟨0, Nat.le_refl 0, setR_new_at (Heap.get?_push_of_some _ g0)⟩ fun s' m hm hc hS => ?_
      · have hi : i < ns.length := by rw [← len]; exact (Array.getElem?_eq_some_iff.mp hv).1
        obtain ⟨t, e⟩ := are.int_at i v (by rw [Array.getElem?_toList]; exact hv)
        exact ⟨ns[i], t, List.getElem?_eq_getElem hi, by rw [e]; simp [hi]⟩
      · obtain ⟨h', _, _, tk', _⟩ := s'
        obtain rfl := hm.gens; obtain rfl := hm.drawn; obtain rfl := hm.os
        show wpAny _ _ _ _ _ _
        refine wpAny_pure ?_
        show wpAny _ _ (PySem.ret Value.none) _ _ _
        refine wpAny_pure ⟨rfl, h', tk', m, rfl, hS, by omega, fun b o e => ?_⟩
        have lb := Heap.lt_size e
        exact hm.heap b o (by rw [sz]; simp only [List.mem_cons, List.not_mem_nil, or_false, not_or]; exact ⟨Nat.ne_of_lt lb, Nat.ne_of_lt (Nat.lt_succ_of_lt lb)⟩) (Heap.get?_push_of_some _ (Heap.get?_push_of_some _ e))
    · match r2, hr2 with
      | .error _, hr2 => exact hr2
      | .ok .next, hr2 => exact hr2.elim
      | .ok .brk, hr2 => exact hr2.elim
      | .ok .cont, hr2 => exact hr2.elim
      | .ok (.ret x), hr2 =>
        obtain ⟨rfl, h', tk, m, rfl, hS⟩ := hr2
        repeat any_goals first | assumption | wp_step
        exact fin _ _ _ hS
end
end Vl

namespace Vl
open PySem PySem.Spec PyProof.Rows L2 He
/-! ### in order, each once -/
def insU (i : Int) : List Int → List Int
  | [] => [i]
  | j :: r => if i < j then i :: j :: r else if i = j then j :: r else j :: insU i r
def srtU : List Int → List Int
  | [] => []
  | i :: r => insU i (srtU r)
theorem insU_mem {i y : Int} : ∀ {l : List Int}, y ∈ insU i l ↔ y = i ∨ y ∈ l
  | [] => by simp [insU]
  | j :: r => by
    have ih := insU_mem (i := i) (y := y) (l := r)
    unfold insU
    split
    · simp
    · split
      · rename_i q; subst q; simp
      · simp only [List.mem_cons, ih]
        exact ⟨fun h => h.elim (fun z => .inr (.inl z)) fun z => z.elim .inl fun z => .inr (.inr z), fun h => h.elim (fun z => .inr (.inl z)) fun z => z.elim .inl fun z => .inr (.inr z)⟩
theorem srtU_mem {y : Int} : ∀ {l : List Int}, y ∈ srtU l ↔ y ∈ l
  | [] => by simp [srtU]
  | i :: r => by rw [srtU, insU_mem, srtU_mem (l := r)]; simp
theorem insU_up {i : Int} : ∀ {l : List Int}, l.Pairwise (· < ·) → (insU i l).Pairwise (· < ·)
  | [], _ => by simp [insU]
  | j :: r, h => by
    unfold insU
    have h' := List.pairwise_cons.mp h
    split
    · rename_i q
      refine List.pairwise_cons.mpr ⟨fun y hy => ?_, h⟩
      rcases List.mem_cons.mp hy with z | z
      · rw [z]; exact q
      · exact Int.lt_trans q (h'.1 y z)
    · split
      · exact h
      · refine List.pairwise_cons.mpr ⟨fun y hy => ?_, insU_up h'.2⟩
        rcases insU_mem.mp hy with z | z
        · rw [z]; omega
        · exact h'.1 y z
theorem srtU_up : ∀ {l : List Int}, (srtU l).Pairwise (· < ·)
  | [] => .nil
  | i :: r => by unfold srtU; exact insU_up srtU_up
theorem lt_eq : ∀ {l m : List Int}, (∀ y, y ∈ l ↔ y ∈ m) → l.Pairwise (· < ·) → m.Pairwise (· < ·) → l = m
  | [], [], _, _, _ => rfl
  | [], j :: m, p, _, _ => by have := (p j).mpr List.mem_cons_self; cases this
  | i :: l, [], p, _, _ => by have := (p i).mp List.mem_cons_self; cases this
  | i :: l, j :: m, p, h1, h2 => by
    rw [List.pairwise_cons] at h1 h2
    have e : i = j := by
      rcases List.mem_cons.mp ((p j).mpr List.mem_cons_self) with z | z
      · exact z.symm
      · have a := h1.1 j z
        rcases List.mem_cons.mp ((p i).mp List.mem_cons_self) with w | w
        · exact w
        · have := h2.1 i w; omega
    subst e
    rw [lt_eq (l := l) (m := m) (fun y => ⟨fun h => ?_, fun h => ?_⟩) h1.2 h2.2]
    · rcases List.mem_cons.mp ((p y).mp (List.mem_cons_of_mem _ h)) with z | z
      · have := h1.1 y h; omega
      · exact z
    · rcases List.mem_cons.mp ((p y).mpr (List.mem_cons_of_mem _ h)) with z | z
      · have := h2.1 y h; omega
      · exact z
theorem srtU_of {l m : List Int} (p : ∀ y, y ∈ m ↔ y ∈ l) (h : m.Pairwise (· < ·)) : m = srtU l := lt_eq (fun y => (p y).trans srtU_mem.symm) h srtU_up
theorem srtU_len {l : List Int} : (srtU l).length ≤ l.length := by
  induction l with
  | nil => exact Nat.le_refl 0
  | cons i r ih =>
    have key : ∀ m : List Int, (insU i m).length ≤ m.length + 1 := by
      intro m
      induction m with
      | nil => exact Nat.le_refl 1
      | cons j m ih =>
        unfold insU
        split
        · simp
        · split
          · simp
          · simp; omega
    have := key (srtU r)
    simp [srtU]; omega
section
variable {c : Vc} {X : Cx} {W : WX} {b : Bool} {bor vs : List Nat} {O O1 O2 O' : Addr → Prop} {fp fp0 fp1 fp2 fp' fq : List Addr} {H H1 H2 H' : Hp} {ρ ρ1 ρ2 ρ' : Env} {σ σ1 σ' : L2.St} {k i n : Nat} {α β : Type} {D1 : Ends}
variable {e e' o tg iter : Expr} {es : List Expr} {fa fb fo fi : FE} {fs : FG (List Val)} {gt : FT} {pos p p2 q pos' apos cpos p1 : Pos} {x : Str} {nm fl : Str} {st : Stmt} {ta : TE}
def tSrtS (K : PySem.W.Frag) (ta : TE) : TE := fun σ H Q => ta σ H fun x H1 => ∃ (l : Addr) (ns : List Int), x = V.ref l ∧ (SqL K H1 l (ns.map V.int) ∨ SqT K H1 l (ns.map V.int)) ∧ ns.length + 1 < 4096 ∧ ∀ p, H1 p = none → Q (.ref p) (upd H1 p (.lst ((srtU ns).map V.int)))
theorem srt_made {pins : List (Addr × Obj)} {s : Shared} {ns : List Int} {Q : VK} {m tk : Nat} {h' : Heap} (hc : X.calm = true) (I : Inv X pins σ H s) (Mm : SetR X.w h' s.heap.objs.size (fun j => decide (j ∈ ns)) m) (hl : m ≤ ns.length) (kp : ∀ b o, s.heap.get? b = some o → h'.get? b = some o) (few : ns.length + 1 < 4096)
    (fin : ∀ p, H p = none → Q (.ref p) (upd H p (.lst ((srtU ns).map V.int)))) :
    wpAny (model X.prog X.w) X.A (call (.builtin "sorted") [.ref s.heap.objs.size]) (fun v s' => ∃ x H', Inv X pins σ H' s' ∧ RelV x v ∧ Q x H') X.xe { s with heap := h', toks := tk } := by
  obtain ⟨o, es, ep, t, ho, hex, hd, g, nd, hm, hb, hf, hn, hr, hl2⟩ := Mm
  refine Calls.call_function_entry PyProof.Rows.kind_sorted PyProof.Rows.plain_sorted PyProof.Rows.entry_sorted (PyProof.Rows.args_sorted1 _) ?_
  unfold Builtin.«sorted»
  refine wpAny_bind (m := checkCount "sorted" 1 1 _) (wpAny_pure ?_)
  refine wpAny_bind (collect_set (A := X.A.in1) (s := { s with heap := h', toks := tk }) (I.ok.hd hc) ⟨o, ho, hex.1, hd⟩ hf hb hr hl2 fun s1 got k1 hz g1 o1 pm => ?_)
  have lg : got.length = m := by rw [pm.length_eq, List.length_map, Array.length_toList]; exact hn
  have sz : got.length ≤ sizeLine := by rw [lg, sizeLine_eq]; omega
  have are : IntsAre got (got.map Builtin.Re.reRawOf) := ints_of got fun v hv => by
    obtain ⟨e, he, q⟩ := List.mem_map.mp (pm.mem_iff.mp hv)
    obtain ⟨k, tk, h1, _⟩ := g e he
    exact ⟨k, tk, by rw [← q]; exact h1⟩
  have pk : (got.map Builtin.Re.reRawOf).Perm (es.toList.map keyOf) := by
    have q := pm.map Builtin.Re.reRawOf
    rw [List.map_map] at q
    exact q
  refine wpAny_bind (wpAny_newList ?_ sz)
  have hoL : (s1.heap.push (seqObj "list" got.toArray 0)).get? s1.heap.objs.size = some (seqObj "list" got.toArray 0) := Heap.get?_push_size _ rfl
  refine wpAny_bind (wpAny_holding (wpAny_call_entry PyProof.Rows.slot_list_sort ⟨_, hoL, rfl⟩ PyProof.Rows.entry_list_sort
    (SrtO.list_sort_ord (s := { s1 with heap := s1.heap.push (seqObj "list" got.toArray 0) }) SrtO.swo_int hoL sz (fun h2 => SrtO.ints_sortable are h2) fun out h1 h2 => ⟨_, rfl, ?_⟩) (PyProof.Rows.args_list_sort _)))
  obtain ⟨e1, e2, e3⟩ := SrtO.ints_out are h1 h2
  obtain ⟨e', he'⟩ := PyProof.Rows.sortedHeap_at (vs := got) (out := out.toArray) hoL
  have pn := e2.trans pk
  have eo : out.map SrtO.iv = srtU ns := srtU_of (fun y => by rw [pn.mem_iff, ← hm y]; simp) (lt_of_le_nodup _ e3 (pn.nodup_iff.mpr nd))
  have hlen : ((out.map SrtO.iv).map V.int).length ≤ sizeLine := by
    rw [List.length_map, e2.length_eq, List.length_map]
    exact sz
  have hp : s.heap.objs.size ≤ s1.heap.objs.size := Nat.le_trans (Nat.le_of_lt (Heap.lt_size ho)) hz
  have kk : ∀ b u, s.heap.get? b = some u → (PyProof.Rows.sortedHeap (s1.heap.push (seqObj "list" got.toArray 0)) s1.heap.objs.size got out.toArray).get? b = some u := fun b u eb => by
    have q := k1 b u (kp b u eb)
    have hb := Heap.lt_size q
    rw [PyProof.Rows.sortedHeap_old (Nat.ne_of_lt hb) (by rw [size_push']; exact Nat.lt_succ_of_lt hb)]
    exact Heap.get?_push_of_some _ q
  have hn0 : H s1.heap.objs.size = none := I.hok.fresh hp
  have J : Inv X pins σ (upd H s1.heap.objs.size (.lst ((out.map SrtO.iv).map V.int))) { s with heap := PyProof.Rows.sortedHeap (s1.heap.push (seqObj "list" got.toArray 0)) s1.heap.objs.size got out.toArray, gens := s1.gens, drawn := s1.drawn, toks := s1.toks } :=
    I.call (ch := []) (Un.laid kk hp hn0) (I.hok.laid kk hp ⟨hlen, out, e', vals_of_ints e1, he'⟩) (by rw [g1]; exact I.bare) (fun _ z => nomatch z)
  refine wpAny_pure ⟨_, rfl, .ref s1.heap.objs.size, _, ?_, rfl, by rw [← eo] at fin; exact fin _ hn0⟩
  have e : ({ s1 with heap := PyProof.Rows.sortedHeap (s1.heap.push (seqObj "list" got.toArray 0)) s1.heap.objs.size got out.toArray } : Shared) = { s with heap := PyProof.Rows.sortedHeap (s1.heap.push (seqObj "list" got.toArray 0)) s1.heap.objs.size got out.toArray, gens := s1.gens, drawn := s1.drawn, toks := s1.toks } := by
    cases s1
    cases s
    cases o1
    rfl
  rw [e]
  exact J
theorem pe_srtS {a : Expr} (hc : X.calm = true) (hg : Gl X "sorted") (hm : X.mg "sorted" = none) (hg2 : Gl X "set") (hm2 : X.mg "set" = none) (ha : PE X a ta)
    (na : starEach [a] X.env = (false, eval a X.env) :: starEach [] X.env := by rfl) (nb : starEach [.Call (.Name "set" p2) [a] [] q] X.env = (false, eval (.Call (.Name "set" p2) [a] [] q) X.env) :: starEach [] X.env := by rfl) : PE X (.Call (.Name "sorted" p) [.Call (.Name "set" p2) [a] [] q] [] pos) (tSrtS X.K ta) := by
  refine ⟨fun pins s σ H Q I h => ?_⟩
  refine Call_ (ld_blt I hg hm bt_sorted ?_)
  refine PyProof.Rows.callWith_builtin1 (PyProof.Rows.args_cons ?_ nb) rfl rfl
  refine Call_ (ld_blt I hg2 hm2 PyProof.Rows.boot_set ?_)
  refine PyProof.Rows.callWith_type1 (PyProof.Rows.args_cons (thn (ha.run pins s σ H _ I h) fun v s1 ⟨x, H1, I1, r1, q1⟩ => PyProof.Rows.args_nil ?_) na) na rfl
  obtain ⟨l, ns, rfl, hq, few, fin⟩ := q1
  cases r1
  have few2 : ns.length + 1 < scanBound := by unfold scanBound; omega
  rcases hq with hq | hq
  · obtain ⟨its, r, pl, hz⟩ := I1.list hq
    refine set_list ns (I1.ok.hd hc) pl.isList (by simpa using r.ints) few2 fun h' tk m M => PyProof.Rows.args_nil ?_
    exact srt_made hc I1 M.1 M.2.1 M.2.2 few fin
  · obtain ⟨its, r, pl, hz⟩ := I1.tuple hq
    refine call_set_tupI ns (I1.ok.hd hc) pl (by simpa using r.ints) few2 fun h' tk m M1 M2 M3 => PyProof.Rows.args_nil ?_
    exact srt_made hc I1 M1 M2 M3 few fin
def seqD (d : D) : Option (List Int) := (itemsD d).bind intsD
theorem seqD_ok {d : D} {v : V} {is : List Int} (p : Pk c O H d v) (e : seqD d = some is) : ∃ l, v = .ref l ∧ (SqL c.K H l (is.map V.int) ∨ SqT c.K H l (is.map V.int)) := by
  obtain ⟨ds, e1, e2⟩ := Option.bind_eq_some_iff.mp e
  obtain ⟨l, ws, ev, hs, rs⟩ := items_ok p e1
  have q := intsD_ok rs e2
  subst q
  exact ⟨l, ev, hs⟩
def kSrtS (w : Val) : FE := fun ρ => match (vw ρ w).bind seqD with
  | some is => if decide (is.length + 1 < 4096) = true then some (.val (.nw (.lst ((srtU is).map .int))) ρ) else none
  | none => none
def vSrtS (fa : FE) : FE := bnd fa kSrtS
theorem x_srtS {a : Expr} (hm : X.mg "sorted" = none) (hm2 : X.mg "set" = none) (ha : VE c X W false a fa) (hg : Gl X "sorted" := by rfl) (hg2 : Gl X "set" := by rfl) (hc : X.calm = true := by rfl) (hK : X.K = c.K := by rfl)
    (na : starEach [a] X.env = (false, eval a X.env) :: starEach [] X.env := by rfl) (nb : starEach [.Call (.Name "set" p2) [a] [] q] X.env = (false, eval (.Call (.Name "set" p2) [a] [] q) X.env) :: starEach [] X.env := by rfl) : VE c X W false (.Call (.Name "sorted" p) [.Call (.Name "set" p2) [a] [] q] [] pos) (vSrtS fa) := by
  obtain ⟨ta, pa, oa⟩ := ha
  refine ⟨_, pe_srtS hc hg hm hg2 hm2 pa na nb, fun O fp H ρ σ Q S h => ?_⟩
  refine oa.thn S.tr S .refl (fun q => (by cases q)) h (fun q => (by cases q)) fun w ρ2 u H2 O2 fp2 g2 _ S2 E2 _ _ R2 F2 h2 => ?_
  unfold kSrtS at h2
  cases e : (vw ρ2 w).bind seqD with
  | none => rw [e] at h2; exact h2.elim
  | some is =>
    rw [e] at h2
    simp only at h2
    obtain ⟨d, e1, e2⟩ := Option.bind_eq_some_iff.mp e
    obtain ⟨l, eu, hl⟩ := seqD_ok (R2.vw S2 e1) e2
    by_cases few : is.length + 1 < 4096
    · rw [if_pos (decide_eq_true few)] at h2
      rw [hK]
      exact ⟨l, is, eu, hl, few, fun p hp => Post.pr h2 S.tr S2 E2 (fun q => (by cases q)) (.lst hp RDs.intsI)⟩
    · rw [if_neg (by simpa using few)] at h2
      exact h2.elim
end
end Vl

namespace Vl
open PySem PySem.Spec PyProof.Rows L2 He
section
variable {c : Vc} {X : Cx} {W : WX} {b : Bool} {bor vs : List Nat} {O O1 O2 O' : Addr → Prop} {fp fp0 fp1 fp2 fp' fq : List Addr} {H H1 H2 H' : Hp} {ρ ρ1 ρ2 ρ' : Env} {σ σ1 σ' : L2.St} {k i n : Nat} {α β : Type} {D1 : Ends}
variable {a e e' o tg iter : Expr} {es : List Expr} {fa fb fo fi : FE} {fs : FG (List Val)} {gt : FT} {pos p p2 q pos' apos cpos p1 : Pos} {x : Str} {nm fl : Str} {st : Stmt} {ta : TE}
/-! ### list(range(n)) -/
def kListRg (w : Val) : FE := fun ρ => match w with
  | .fr (.int n) => if decide (0 ≤ n) && decide (n ≤ 1000000) then some (.val (.nw (.lst ((List.range n.toNat).map fun (i : Nat) => D.int i))) ρ) else none
  | _ => none
def vListRg (fa : FE) : FE := bnd fa kListRg
theorem x_listRg (hm : X.mg "list" = none) (hm2 : X.mg "range" = none) (ha : VE c X W false a fa) (hg : Gl X "list" := by rfl) (hg2 : Gl X "range" := by rfl) (hc : X.calm = true := by rfl)
    (na : starEach [a] X.env = (false, eval a X.env) :: starEach [] X.env := by rfl) (nb : starEach [.Call (.Name "range" p2) [a] [] q] X.env = (false, eval (.Call (.Name "range" p2) [a] [] q) X.env) :: starEach [] X.env := by rfl) : VE c X W false (.Call (.Name "list" p) [.Call (.Name "range" p2) [a] [] q] [] pos) (vListRg fa) := by
  obtain ⟨ta, pa, oa⟩ := ha
  refine ⟨_, pe_listRg hc hg hm (prg_1 hg2 hm2 pa na) nb, fun O fp H ρ σ Q S h => ?_⟩
  refine oa.thn S.tr S .refl (fun q => (by cases q)) h (fun q => (by cases q)) fun w ρ2 u H2 O2 fp2 g2 ew S2 E2 _ _ R2 F2 h2 => ?_
  unfold kListRg at h2; clear ew
  split at h2
  · rename_i n
    obtain ⟨ru, _⟩ := R2
    have eu : u = .int n := ru
    by_cases hn : (decide (0 ≤ n) && decide (n ≤ 1000000)) = true
    · rw [if_pos hn] at h2
      simp only [Bool.and_eq_true, decide_eq_true_eq] at hn
      refine ⟨n, eu, RgOk.of_le (by omega) (by omega) (by omega) (by omega), fun p hp => ?_⟩
      have r : RDs c O2 H2 ((List.range n.toNat).map fun (i : Nat) => D.int i) (rgV 0 n) := by
        unfold rgV
        rw [Int.sub_zero]
        generalize List.range n.toNat = l
        induction l with
        | nil => exact (rfl : ([] : List V) = [])
        | cons i r ih => exact ⟨_, _, rfl, (by show V.int (0 + (i : Int)) = V.int i; rw [Int.zero_add]), ih⟩
      exact Post.pr h2 S.tr S2 E2 (fun q => (by cases q)) (.lst hp r)
    · rw [if_neg hn] at h2
      exact h2.elim
  · exact h2.elim
theorem vss_bot {body : List Stmt} : VSs c X W bor body sBot := ⟨fun _ _ _ => False, ⟨fun _ _ _ _ _ _ z => z.elim⟩, fun _ _ _ _ _ _ _ z => z⟩
/-! ### len(d) -/
theorem call_lenK : CallR X (.builtin "len") (fun xs H Q => ∃ a kvs, xs = [.ref a] ∧ Rd H a (.dK kvs) ∧ Q (.int kvs.length) H) := by
  intro pins s σ H xs us Q I r h
  obtain ⟨a, kvs, rfl, hd, q⟩ := h
  obtain ⟨u, eu, ru⟩ := vals1 r
  subst eu
  cases ru
  exact d_len I hd fun t s' I' => ⟨.int kvs.length, H, I', ⟨t, rfl⟩, q⟩
def gLenK : List D → Option Val
  | [.dK kvs] => some (.fr (.int kvs.length))
  | _ => none
theorem s_lenK : CaS c (fun xs H Q => ∃ a kvs, xs = [.ref a] ∧ Rd H a (.dK kvs) ∧ Q (.int kvs.length) H) gLenK := fun O H vs ds w Q tr p e k => by
  unfold gLenK at e
  split at e
  · cases e
    obtain ⟨v, rfl, pv⟩ := pks1 p
    obtain ⟨a, us, rfl, ha, ra⟩ := dk_get pv
    exact ⟨a, us, rfl, ha, by rw [ra.len]; exact k _ H [] (.same rfl)⟩
  · cases e
theorem x_lenK (hm : X.mg "len" = none) (ha : VA c X W b [e] fs) (hg : Gl X "len" := by rfl) (he : starEach (e :: []) X.env = (false, eval e X.env) :: starEach [] X.env := by rfl) : VE c X W b (.Call (.Name "len" p) [e] [] pos) (vCall gLenK fs) :=
  ve_callB (r := fun xs H Q => ∃ a kvs, xs = [.ref a] ∧ Rd H a (.dK kvs) ∧ Q (.int kvs.length) H) call_lenK s_lenK hg hm boot_len ha (by decide) (by decide) he
end
end Vl

/-! printed by walk2.py -/
namespace Wk
open PySem PySem.Spec PyProof.Rows L2 He Vl
abbrev PP : Program := PySem.Challenge.pw_rewoven_k28_whole_tangled_exactly
def top (i : Nat) : Stmt := PP.main.body.getD i (.Pass ⟨0, 0, 0, 0⟩)
def iL : List (Tag × Tag × Bool) := [(.ty "int", .ty "int", true), (.ty "int", .ty "bool", false), (.ty "list", .ty "list", true), (.ty "tuple", .ty "tuple", true)]
def xL : List (Str × Tag × Bool) := []
/-! _law_draw -/
abbrev st_law_draw : Stmt := top 11
def N_law_draw : List Str := ["state", "limit", "value", "position", "cell", "mixed"]
def d_law_draw : DefD := ⟨("_law_draw", none), "_law_draw", "_law_draw", defArgs st_law_draw, defBody st_law_draw, defScope st_law_draw, [], []⟩
theorem sc_law_draw : FnScope N_law_draw ["state", "limit"] (defScope st_law_draw) := ⟨rfl, rfl, rfl, by decide +kernel, rfl, by decide +kernel, by decide +kernel⟩
def s_law_draw_3 : FS := sSe seU (vOp gAdd (vV 3) (vC (.int 1))) (vV 0) (vC (.int 1))
def s_law_draw_6 : FS := sSetF 4 (vOp gIxU (vOp gIxU (vV 0) (vC (.int 2))) (vV 3))
def s_law_draw_5 : FS := sIf (bnd (vOp gLt (vV 3) (vCall gLen (vCons (vOp gIxU (vV 0) (vC (.int 2))) (vNil)))) asB) (s_law_draw_6) (sNil)
def s_law_draw_10 : FS := sSe seU (vOp gMod (vCall gInt (vCons (vOp gMulU (vOp gAdd (vOp gAdd (vOp gAdd (vOp gIxU (vV 0) (vC (.int 3))) (vOp gMod (vCall gInt (vCons (vV 4) (vNil))) (vC (.int 2147483629)))) (vV 3)) (vC (.int 1))) (vC (.int 48271))) (vNil))) (vC (.int 2147483647))) (vV 0) (vC (.int 3))
def s_law_draw_11 : FS := sSetF 5 (vOp gMod (vCall gInt (vCons (vOp gAdd (vOp gMulU (vOp gIxU (vV 0) (vC (.int 3))) (vC (.int 69621))) (vC (.int 11))) (vNil))) (vC (.int 2147483629)))
def s_law_draw_12 : FS := sSe seU (vOp gAdd (vOp gMulU (vV 5) (vC (.int 2147483647))) (vOp gMod (vCall gInt (vCons (vOp gAdd (vOp gMulU (vV 5) (vC (.int 30011))) (vOp gIxU (vV 0) (vC (.int 3)))) (vNil))) (vC (.int 2147483587)))) (vV 0) (vC (.int 0))
def s_law_draw_7 : FS := sIf (bnd (vOp gGe (vV 4) (vOp gPow (vC (.int 10)) (vC (.int 18)))) asB) (sSe seU (vV 4) (vV 0) (vC (.int 0))) (sSeq (s_law_draw_10) (
  sSeq (s_law_draw_11) (
  s_law_draw_12)))
def s_law_draw_1 : FS := sIf (bnd (vOp gLt (vOp gIxU (vV 0) (vC (.int 0))) (vV 1)) asB) (sSeq (sSetF 3 (vOp gIxU (vV 0) (vC (.int 1)))) (
  sSeq (s_law_draw_3) (
  sSeq (sSetF 4 (vC (.int 0))) (
  sSeq (s_law_draw_5) (
  s_law_draw_7))))) (sNil)
def s_law_draw_13 : FS := sSetF 2 (vOp gMod (vCall gInt (vCons (vOp gIxU (vV 0) (vC (.int 0))) (vNil))) (vV 1))
def s_law_draw_14 : FS := sSe seU (vOp gFdiv (vOp gIxU (vV 0) (vC (.int 0))) (vV 1)) (vV 0) (vC (.int 0))
def g_law_draw : FS := sSeq (s_law_draw_1) (
  sSeq (s_law_draw_13) (
  sSeq (s_law_draw_14) (
  sRet (vV 2))))
def F_law_draw : FF := bodyF 6 [0, 1] g_law_draw
/-! _law_next -/
abbrev st_law_next : Stmt := top 12
def N_law_next : List Str := ["state", "at", "many", "kind", "choice"]
def d_law_next : DefD := ⟨("_law_next", none), "_law_next", "_law_next", defArgs st_law_next, defBody st_law_next, defScope st_law_next, [], []⟩
theorem sc_law_next : FnScope N_law_next ["state", "at", "many", "kind"] (defScope st_law_next) := ⟨rfl, rfl, rfl, by decide +kernel, rfl, by decide +kernel, by decide +kernel⟩
def s_law_next_2 : FS := sRet (vCallG 2 F_law_draw (vCons (vV 0) (vCons (vV 2) (vNil))))
def s_law_next_1 : FS := sIf (bnd (vOp gEq (vV 3) (vC (.int 0))) asB) (s_law_next_2) (sNil)
def s_law_next_3 : FS := sSetF 4 (vCallG 2 F_law_draw (vCons (vV 0) (vCons (vC (.int 6)) (vNil))))
def s_law_next_5 : FS := sRet (vCallG 2 F_law_draw (vCons (vV 0) (vCons (vOp gAdd (vV 1) (vC (.int 1))) (vNil))))
def s_law_next_4 : FS := sIf (bnd (vOp gEq (vV 4) (vC (.int 0))) asB) (s_law_next_5) (sNil)
def s_law_next_7 : FS := sRet (vCall gMin (vCons (vOp gSub (vV 2) (vC (.int 1))) (vCons (vOp gAdd (vOp gAdd (vV 1) (vC (.int 1))) (vCallG 2 F_law_draw (vCons (vV 0) (vCons (vC (.int 3)) (vNil))))) (vNil))))
def s_law_next_6 : FS := sIf (vAnd (bnd (vOp gEq (vV 4) (vC (.int 1))) asB) (vOr (bnd (vOp gLt (vV 3) (vC (.int 4))) asB) (vAnd (bnd (vOp gEq (vV 3) (vC (.int 5))) asB) (bnd (vOp gEq (vCallG 2 F_law_draw (vCons (vV 0) (vCons (vC (.int 8)) (vNil)))) (vC (.int 0))) asB)))) (s_law_next_7) (sNil)
def s_law_next_8 : FS := sRet (vCall gMin (vCons (vOp gSub (vV 2) (vC (.int 1))) (vCons (vOp gAdd (vV 1) (vC (.int 1))) (vNil))))
def g_law_next : FS := sSeq (s_law_next_1) (
  sSeq (s_law_next_3) (
  sSeq (s_law_next_4) (
  sSeq (s_law_next_6) (
  s_law_next_8))))
def F_law_next : FF := bodyF 5 [0, 1, 2, 3] g_law_next
/-! _law_rows -/
abbrev st_law_rows : Stmt := top 13
def N_law_rows : List Str := ["state", "most", "many", "kind", "rows", "at", "choice", "count", "act", "nexts", "arms", "k"]
def d_law_rows : DefD := ⟨("_law_rows", none), "_law_rows", "_law_rows", defArgs st_law_rows, defBody st_law_rows, defScope st_law_rows, [], []⟩
theorem sc_law_rows : FnScope N_law_rows ["state", "most"] (defScope st_law_rows) := ⟨rfl, rfl, rfl, by decide +kernel, rfl, by decide +kernel, by decide +kernel⟩
def s_law_rows_1 : FS := sSetF 2 (vOp gAdd (vC (.int 1)) (vCallG 2 F_law_draw (vCons (vV 0) (vCons (vV 1) (vNil)))))
def s_law_rows_2 : FS := sSetF 3 (vCallG 2 F_law_draw (vCons (vV 0) (vCons (vC (.int 4)) (vNil))))
def s_law_rows_4 : FS := sSetF 2 (vOp gAdd (vC (.int 25)) (vCallG 2 F_law_draw (vCons (vV 0) (vCons (vC (.int 96)) (vNil)))))
def s_law_rows_5 : FS := sSetF 3 (vOp gAdd (vC (.int 4)) (vCallG 2 F_law_draw (vCons (vV 0) (vCons (vC (.int 2)) (vNil)))))
def s_law_rows_3 : FS := sIf (bnd (vOp gGt (vV 1) (vC (.int 24))) asB) (sSeq (s_law_rows_4) (
  s_law_rows_5)) (sNil)
def s_law_rows_8 : FS := sSetF 6 (vCallG 2 F_law_draw (vCons (vV 0) (vCons (vC (.int 8)) (vNil))))
def s_law_rows_9 : FS := sSetF 7 (vOp gAdd (vC (.int 1)) (vCallG 2 F_law_draw (vCons (vV 0) (vCons (vC (.int 3)) (vNil)))))
def s_law_rows_11 : FS := sSetF 8 (vTup (vCons (vC (.str "branch")) (vCons (vTup (vCons (vC (.str "variable")) (vCons (vV 5) (vNil)))) (vNil))))
def s_law_rows_12 : FS := sSetF 9 (vTup (vCons (vCallG 4 F_law_next (vCons (vV 0) (vCons (vV 5) (vCons (vV 2) (vCons (vV 3) (vNil)))))) (vCons (vCallG 4 F_law_next (vCons (vV 0) (vCons (vV 5) (vCons (vV 2) (vCons (vV 3) (vNil)))))) (vNil))))
def s_law_rows_14 : FS := sSetF 8 (vTup (vCons (vC (.str "select")) (vCons (vTup (vCons (vC (.str "variable")) (vCons (vV 5) (vNil)))) (vNil))))
def s_law_rows_15 : FS := sSetF 10 (vOp gAdd (vC (.int 1)) (vCallG 2 F_law_draw (vCons (vV 0) (vCons (vOp gAdd (vC (.int 4)) (vOp gMulU (vC (.int 12)) (vCall gInt (vCons (vAndV (vOp gLt (vV 2) (vC (.int 10))) (vOp gEq (vCallG 2 F_law_draw (vCons (vV 0) (vCons (vC (.int 4)) (vNil)))) (vC (.int 1)))) (vNil))))) (vNil)))))
def s_law_rows_16 : FS := sSetF 9 (vCall gTuple (vCons (vLc 12 [11] (bnd (vCons (vV 10) (vNil)) fun ws => optF (dR1 ws)) (gN 11) (ret true) (vCallG 4 F_law_next (vCons (vV 0) (vCons (vV 5) (vCons (vV 2) (vCons (vV 3) (vNil))))))) (vNil)))
def s_law_rows_18 : FS := sSetF 8 (vOp gIxU (vLst (vCons (vTup (vCons (vC (.str "halt")) (vNil))) (vCons (vTup (vCons (vC (.str "trap")) (vCons (vV 5) (vNil)))) (vCons (vTup (vCons (vC (.str "back")) (vCons (vTup (vCons (vTup (vCons (vC (.str "word")) (vCons (vV 5) (vNil)))) (vNil))) (vNil)))) (vCons (vTup (vCons (vC (.str "lost")) (vNil))) (vNil)))))) (vCallG 2 F_law_draw (vCons (vV 0) (vCons (vC (.int 4)) (vNil)))))
def s_law_rows_21 : FS := sSetF 8 (vOp gIxU (vLst (vCons (vTup (vCons (vC (.str "output")) (vCons (vTup (vCons (vC (.str "word")) (vCons (vV 5) (vNil)))) (vNil)))) (vCons (vTup (vCons (vC (.str "input")) (vCons (vV 5) (vNil)))) (vCons (vTup (vCons (vC (.str "pass")) (vNil))) (vCons (vTup (vCons (vC (.str "assign")) (vCons (vV 5) (vCons (vTup (vCons (vC (.str "word")) (vCons (vC (.int 7)) (vNil)))) (vNil))))) (vCons (vTup (vCons (vC (.str "need")) (vCons (vV 5) (vNil)))) (vCons (vTup (vCons (vC (.str "write")) (vCons (vTup (vCons (vC (.str "word")) (vCons (vV 5) (vNil)))) (vCons (vTup (vCons (vC (.str "variable")) (vCons (vC (.int 0)) (vNil)))) (vNil))))) (vCons (vTup (vCons (vC (.str "call")) (vCons (vTup (vNil)) (vCons (vC (.int 0)) (vCons (vTup (vNil)) (vCons (vV 5) (vNil))))))) (vCons (vTup (vCons (vC (.str "calls")) (vCons (vTup (vCons (vV 5) (vNil))) (vCons (vTup (vCons (vC (.str "word")) (vCons (vC (.int 0)) (vNil)))) (vCons (vTup (vCons (vC (.int 0)) (vCons (vC (.int 1)) (vNil)))) (vCons (vTup (vCons (vTup (vCons (vC (.str "word")) (vCons (vV 5) (vNil)))) (vNil))) (vCons (vC (.int 0)) (vNil)))))))) (vNil)))))))))) (vCallG 2 F_law_draw (vCons (vV 0) (vCons (vC (.int 8)) (vNil)))))
def s_law_rows_22 : FS := sSetF 9 (vTup (vCons (vCallG 4 F_law_next (vCons (vV 0) (vCons (vV 5) (vCons (vV 2) (vCons (vV 3) (vNil)))))) (vNil)))
def s_law_rows_17 : FS := sIf (vOr (vAnd (bnd (vOp gEq (vV 6) (vC (.int 4))) asB) (bnd (vOp gLt (vV 3) (vC (.int 4))) asB)) (vAnd (bnd (vOp gEq (vOp gAdd (vV 5) (vC (.int 1))) (vV 2)) asB) (bnd (vOp gGt (vCallG 2 F_law_draw (vCons (vV 0) (vCons (vC (.int 3)) (vNil)))) (vC (.int 0))) asB))) (sSeq (s_law_rows_18) (
  sSetF 9 (vTup (vNil)))) (sSeq (s_law_rows_21) (
  s_law_rows_22))
def s_law_rows_13 : FS := sIf (bnd (vOp gEq (vV 6) (vC (.int 3))) asB) (sSeq (s_law_rows_14) (
  sSeq (s_law_rows_15) (
  s_law_rows_16))) (s_law_rows_17)
def s_law_rows_10 : FS := sIf (bnd (vOp gLe (vV 6) (vC (.int 2))) asB) (sSeq (s_law_rows_11) (
  s_law_rows_12)) (s_law_rows_13)
def s_law_rows_23 : FS := sDrop (vMu muAppend (vV 4) (vCons (vTup (vCons (vV 8) (vCons (vV 7) (vCons (vV 9) (vNil))))) (vNil)))
def b_law_rows_7 : FS := sSeq (s_law_rows_8) (
  sSeq (s_law_rows_9) (
  sSeq (s_law_rows_10) (
  s_law_rows_23)))
def s_law_rows_7 : FS := sFor (bnd (vCons (vV 2) (vNil)) fun ws => optF (dR1 ws)) (gN 5) (b_law_rows_7)
def g_law_rows : FS := sSeq (s_law_rows_1) (
  sSeq (s_law_rows_2) (
  sSeq (s_law_rows_3) (
  sSeq (sSet 4 (vLst (vNil))) (
  sSeq (s_law_rows_7) (
  sRet (vV 4))))))
def F_law_rows : FF := bodyF 12 [0, 1] g_law_rows
/-! _law_drawn -/
abbrev st_law_drawn : Stmt := top 14
def N_law_drawn : List Str := ["script", "state", "most", "rows", "first"]
def d_law_drawn : DefD := ⟨("_law_drawn", none), "_law_drawn", "_law_drawn", defArgs st_law_drawn, defBody st_law_drawn, defScope st_law_drawn, [], []⟩
theorem sc_law_drawn : FnScope N_law_drawn ["script"] (defScope st_law_drawn) := ⟨rfl, rfl, rfl, by decide +kernel, rfl, by decide +kernel, by decide +kernel⟩
def s_law_drawn_1 : FS := sSet 1 (vLst (vCons (vC (.int 0)) (vCons (vC (.int 0)) (vCons (vCall gListU (vCons (vV 0) (vNil))) (vCons (vC (.int 1)) (vNil))))))
def s_law_drawn_3 : FS := sIf (bnd (vOp gEq (vCallG 2 F_law_draw (vCons (vV 1) (vCons (vC (.int 6)) (vNil)))) (vC (.int 3))) asB) (sSetF 2 (vC (.int 24))) (sNil)
def s_law_drawn_5 : FS := sIf (bnd (vOp gEq (vCallG 2 F_law_draw (vCons (vV 1) (vCons (vC (.int 16)) (vNil)))) (vC (.int 5))) asB) (sSetF 2 (vC (.int 120))) (sNil)
def s_law_drawn_7 : FS := sSetF 3 (vCallG 2 F_law_rows (vCons (vV 1) (vCons (vV 2) (vNil))))
def s_law_drawn_10 : FS := sSetF 4 (vCallG 2 F_law_draw (vCons (vV 1) (vCons (vCall gLen (vCons (vV 3) (vNil))) (vNil))))
def s_law_drawn_9 : FS := sIf (bnd (vOp gEq (vCallG 2 F_law_draw (vCons (vV 1) (vCons (vC (.int 4)) (vNil)))) (vC (.int 1))) asB) (s_law_drawn_10) (sNil)
def s_law_drawn_11 : FS := sRet (vLstP (vCons (vV 3) (vCons (vV 4) (vCons (vV 1) (vNil)))))
def g_law_drawn : FS := sSeq (s_law_drawn_1) (
  sSeq (sSetF 2 (vC (.int 9))) (
  sSeq (s_law_drawn_3) (
  sSeq (s_law_drawn_5) (
  sSeq (s_law_drawn_7) (
  sSeq (sSetF 4 (vC (.int 0))) (
  sSeq (s_law_drawn_9) (
  s_law_drawn_11)))))))
def F_law_drawn : FF := bodyF 5 [0] g_law_drawn
/-! jump -/
abbrev st_jump : Stmt := top 6
def N_jump : List Str := ["labels", "number"]
def d_jump : DefD := ⟨("jump", none), "jump", "jump", defArgs st_jump, defBody st_jump, defScope st_jump, [], []⟩
theorem sc_jump : FnScope N_jump ["labels", "number"] (defScope st_jump) := ⟨rfl, rfl, rfl, by decide +kernel, rfl, by decide +kernel, by decide +kernel⟩
def s_jump_2 : FS := sRet (vTup (vCons (vC (.str "again")) (vCons (vV 1) (vNil))))
def s_jump_1 : FS := sIf (bnd (vOp (gInU false) (vV 1) (vV 0)) asB) (s_jump_2) (sNil)
def s_jump_3 : FS := sRet (vTup (vCons (vC (.str "leave")) (vCons (vV 1) (vNil))))
def g_jump : FS := sSeq (s_jump_1) (
  s_jump_3)
def F_jump : FF := bodyF 2 [0, 1] g_jump
/-! head_shape -/
abbrev st_head_shape : Stmt := top 7
def N_head_shape : List Str := ["rows", "head", "labels", "act", "nexts", "number"]
def d_head_shape : DefD := ⟨("head_shape", none), "head_shape", "head_shape", defArgs st_head_shape, defBody st_head_shape, defScope st_head_shape, [], []⟩
theorem sc_head_shape : FnScope N_head_shape ["rows", "head", "labels"] (defScope st_head_shape) := ⟨rfl, rfl, rfl, by decide +kernel, rfl, by decide +kernel, by decide +kernel⟩
def s_head_shape_1 : FS := sSetF 3 (vOp gIxU (vOp gIxU (vV 0) (vV 1)) (vC (.int 0)))
def s_head_shape_2 : FS := sSetF 4 (vOp gIxU (vOp gIxU (vV 0) (vV 1)) (vC (.int 2)))
def s_head_shape_4 : FS := sRet (vTup (vCons (vTup (vCons (vC (.str "if_row")) (vCons (vV 1) (vCons (vTup (vCons (vCallG 2 F_jump (vCons (vV 2) (vCons (vOp gIxU (vV 4) (vC (.int 0))) (vNil)))) (vNil))) (vCons (vTup (vCons (vCallG 2 F_jump (vCons (vV 2) (vCons (vOp gIxU (vV 4) (vC (.int 1))) (vNil)))) (vNil))) (vNil)))))) (vNil)))
def s_head_shape_3 : FS := sIf (bnd (vOp gEq (vOp gIxU (vV 3) (vC (.int 0))) (vC (.str "branch"))) asB) (s_head_shape_4) (sNil)
def s_head_shape_6 : FS := sRet (vTup (vCons (vTup (vCons (vC (.str "switch_row")) (vCons (vV 1) (vCons (vCall gTuple (vCons (vLc 6 [5] (bnd (vV 4) asS) (gN 5) (ret true) (vTup (vCons (vCallG 2 F_jump (vCons (vV 2) (vCons (vV 5) (vNil)))) (vNil)))) (vNil))) (vNil))))) (vNil)))
def s_head_shape_5 : FS := sIf (bnd (vOp gEq (vOp gIxU (vV 3) (vC (.int 0))) (vC (.str "select"))) asB) (s_head_shape_6) (sNil)
def s_head_shape_8 : FS := sRet (vTup (vCons (vTup (vCons (vC (.str "row")) (vCons (vV 1) (vNil)))) (vNil)))
def s_head_shape_7 : FS := sIf (vNot (bnd (vV 4) asT)) (s_head_shape_8) (sNil)
def s_head_shape_9 : FS := sRet (vTup (vCons (vTup (vCons (vC (.str "row")) (vCons (vV 1) (vNil)))) (vCons (vCallG 2 F_jump (vCons (vV 2) (vCons (vOp gIxU (vV 4) (vC (.int 0))) (vNil)))) (vNil))))
def g_head_shape : FS := sSeq (s_head_shape_1) (
  sSeq (s_head_shape_2) (
  sSeq (s_head_shape_3) (
  sSeq (s_head_shape_5) (
  sSeq (s_head_shape_7) (
  s_head_shape_9)))))
def F_head_shape : FF := bodyF 6 [0, 1, 2] g_head_shape
/-! spread -/
abbrev st_spread : Stmt := top 1
def N_spread : List Str := ["rows", "chosen", "start", "found", "position", "goal"]
def d_spread : DefD := ⟨("spread", none), "spread", "spread", defArgs st_spread, defBody st_spread, defScope st_spread, [], []⟩
theorem sc_spread : FnScope N_spread ["rows", "chosen", "start"] (defScope st_spread) := ⟨rfl, rfl, rfl, by decide +kernel, rfl, by decide +kernel, by decide +kernel⟩
def s_spread_5 : FS := sIf (vAnd (bnd (vOp (gInU false) (vV 5) (vV 1)) asB) (bnd (vOp (gInU true) (vV 5) (vV 3)) asB)) (sDrop (vMu muAppend (vV 3) (vCons (vV 5) (vNil)))) (sNil)
def s_spread_4 : FS := sFor (bnd (vOp gIxU (vOp gIxU (vV 0) (vOp gIxU (vV 3) (vV 4))) (vC (.int 2))) asS) (gN 5) (s_spread_5)
def s_spread_7 : FS := sAug 4 (iOp (fun _ _ => true) (fun i j => i + j)) (vC (.int 1))
def b_spread_3 : FS := sSeq (s_spread_4) (
  s_spread_7)
def s_spread_3 : FS := sWhile (fun _ => 1000000) (bnd (vOp gLt (vV 4) (vCall gLen (vCons (vV 3) (vNil)))) asB) (b_spread_3)
def g_spread : FS := sSeq (sSet 3 (vLst (vCons (vV 2) (vNil)))) (
  sSeq (sSetF 4 (vC (.int 0))) (
  sSeq (s_spread_3) (
  sRet (vCall gSorted (vCons (vV 3) (vNil))))))
def F_spread : FF := bodyF 6 [0, 1, 2] g_spread
/-! components -/
abbrev st_components : Stmt := top 3
def N_components : List Str := ["rows", "chosen", "left", "parts", "reach", "lowest", "number", "part", "other"]
def d_components : DefD := ⟨("components", none), "components", "components", defArgs st_components, defBody st_components, defScope st_components, [], []⟩
theorem sc_components : FnScope N_components ["rows", "chosen"] (defScope st_components) := ⟨rfl, rfl, rfl, by decide +kernel, rfl, by decide +kernel, by decide +kernel⟩
def s_components_4 : FS := sSetF 4 (vDc 9 [6] (bnd (vV 2) asS) (gN 6) (ret true) (vV 6) (vCallG 3 F_spread (vCons (vV 0) (vCons (vV 2) (vCons (vV 6) (vNil))))))
def s_components_7 : FS := sIf (bnd (vGx true 9 [8] (bnd (vV 2) asS) (gN 8) (ret true) (vOrV (vOp (gInU true) (vV 6) (vOp gIxU (vV 4) (vV 8))) (vOp (gInU false) (vV 8) (vOp gIxU (vV 4) (vV 6))))) asT) (sSeq (sSetF 5 (vV 6)) (
  fun ρ => some (.brk ρ))) (sNil)
def s_components_10 : FS := sSetF 7 (vLc 9 [6] (bnd (vV 2) asS) (gN 6) (vAnd (bnd (vOp (gInU false) (vV 6) (vOp gIxU (vV 4) (vV 5))) asB) (bnd (vOp (gInU false) (vV 5) (vOp gIxU (vV 4) (vV 6))) asB)) (vV 6))
def s_components_12 : FS := sSetF 2 (vLc 9 [6] (bnd (vV 2) asS) (gN 6) (bnd (vOp (gInU true) (vV 6) (vV 7)) asB) (vV 6))
def b_components_3 : FS := sSeq (s_components_4) (
  sSeq (sSetF 5 (vOp gIxU (vV 2) (vC (.int 0)))) (
  sSeq (sFor (bnd (vV 2) asS) (gN 6) (s_components_7)) (
  sSeq (s_components_10) (
  sSeq (sDrop (vMu muAppend (vV 3) (vCons (vV 7) (vNil)))) (
  s_components_12)))))
def s_components_3 : FS := sWhile (fun _ => 1000000) (bnd (vV 2) asT) (b_components_3)
def g_components : FS := sSeq (sSetF 2 (vCall gListU (vCons (vV 1) (vNil)))) (
  sSeq (sSet 3 (vLst (vNil))) (
  sSeq (s_components_3) (
  sRet (vV 3))))
def F_components : FF := bodyF 9 [0, 1] g_components
/-! entered_at -/
abbrev st_entered_at : Stmt := top 4
def N_entered_at : List Str := ["rows", "region", "component", "outside", "number", "goal"]
def d_entered_at : DefD := ⟨("entered_at", none), "entered_at", "entered_at", defArgs st_entered_at, defBody st_entered_at, defScope st_entered_at, [], []⟩
theorem sc_entered_at : FnScope N_entered_at ["rows", "region", "component"] (defScope st_entered_at) := ⟨rfl, rfl, rfl, by decide +kernel, rfl, by decide +kernel, by decide +kernel⟩
def s_entered_at_1 : FS := sSetF 3 (vLc 6 [4] (bnd (vV 1) asS) (gN 4) (bnd (vOp (gInU true) (vV 4) (vV 2)) asB) (vV 4))
def s_entered_at_2 : FS := sRet (vLc 6 [5] (bnd (vV 2) asS) (gN 5) (bnd (vGx false 6 [4] (bnd (vV 3) asS) (gN 4) (ret true) (vOp (gInU false) (vV 5) (vOp gIxU (vOp gIxU (vV 0) (vV 4)) (vC (.int 2))))) asT) (vV 5))
def g_entered_at : FS := sSeq (s_entered_at_1) (
  s_entered_at_2)
def F_entered_at : FF := bodyF 6 [0, 1, 2] g_entered_at
/-! outline_of -/
abbrev st_outline_of : Stmt := top 8
def N_outline_of : List Str := ["rows", "region", "head", "labels", "is_loop", "inner", "shape", "part", "entries", "found", "number"]
def d_outline_of : DefD := ⟨("outline_of", none), "outline_of", "outline_of", defArgs st_outline_of, defBody st_outline_of, defScope st_outline_of, [], []⟩
theorem sc_outline_of : FnScope N_outline_of ["rows", "region", "head", "labels"] (defScope st_outline_of) := ⟨rfl, rfl, rfl, by decide +kernel, rfl, by decide +kernel, by decide +kernel⟩
def s_outline_of_1 (R : FF) : FS := sSetF 4 (vGx false 11 [10] (bnd (vV 1) asS) (gN 10) (ret true) (vOp (gInU false) (vV 2) (vOp gIxU (vOp gIxU (vV 0) (vV 10)) (vC (.int 2)))))
def s_outline_of_2 (R : FF) : FS := sSetF 5 (vIf (bnd (vV 4) asT) (vOp gAdd (vV 3) (vLst (vCons (vV 2) (vNil)))) (vV 3))
def s_outline_of_3 (R : FF) : FS := sSetF 6 (vCallG 3 F_head_shape (vCons (vV 0) (vCons (vV 2) (vCons (vV 5) (vNil)))))
def s_outline_of_5 (R : FF) : FS := sSetF 8 (vCallG 3 F_entered_at (vCons (vV 0) (vCons (vV 1) (vCons (vV 7) (vNil)))))
def s_outline_of_7 (R : FF) : FS := sRet (vTup (vCons (vC (.str "tangled")) (vCons (vOp gIxU (vV 8) (vC (.int 0))) (vCons (vOp gIxU (vV 8) (vC (.int 1))) (vNil)))))
def s_outline_of_6 (R : FF) : FS := sIf (bnd (vOp gGt (vCall gLen (vCons (vV 8) (vNil))) (vC (.int 1))) asB) (s_outline_of_7 R) (sNil)
def s_outline_of_8 (R : FF) : FS := sSetF 9 (vCallG 4 R (vCons (vV 0) (vCons (vV 7) (vCons (vOp gIxU (vV 8) (vC (.int 0))) (vCons (vV 5) (vNil))))))
def s_outline_of_9 (R : FF) : FS := sIf (bnd (vOp gEq (vOp gIxU (vV 9) (vC (.int 0))) (vC (.str "tangled"))) asB) (sRet (vV 9)) (sNil)
def s_outline_of_11 (R : FF) : FS := sSetF 6 (vOp gAdd (vTup (vCons (vTup (vCons (vC (.str "block")) (vCons (vOp gIxU (vV 8) (vC (.int 0))) (vCons (vV 6) (vNil))))) (vNil))) (vOp gIxU (vV 9) (vC (.int 1))))
def b_outline_of_4 (R : FF) : FS := sSeq (s_outline_of_5 R) (
  sSeq (s_outline_of_6 R) (
  sSeq (s_outline_of_8 R) (
  sSeq (s_outline_of_9 R) (
  s_outline_of_11 R))))
def s_outline_of_4 (R : FF) : FS := sFor (bnd (vCallG 2 F_components (vCons (vV 0) (vCons (vLc 11 [10] (bnd (vV 1) asS) (gN 10) (bnd (vOp gNe (vV 10) (vV 2)) asB) (vV 10)) (vNil)))) asS) (gN 7) (b_outline_of_4 R)
def s_outline_of_13 (R : FF) : FS := sSetF 6 (vTup (vCons (vTup (vCons (vC (.str "loop")) (vCons (vV 2) (vCons (vV 6) (vNil))))) (vNil)))
def s_outline_of_14 (R : FF) : FS := sRet (vTup (vCons (vC (.str "structured")) (vCons (vV 6) (vNil))))
def g_outline_of (R : FF) : FS := sSeq (s_outline_of_1 R) (
  sSeq (s_outline_of_2 R) (
  sSeq (s_outline_of_3 R) (
  sSeq (s_outline_of_4 R) (
  sSeq (sIf (bnd (vV 4) asT) (s_outline_of_13 R) (sNil)) (
  s_outline_of_14 R)))))
def F_outline_of : Nat → FF
  | 0 => bodyF 11 [0, 1, 2, 3] sBot
  | n + 1 => bodyF 11 [0, 1, 2, 3] (g_outline_of (F_outline_of n))
/-! reachable -/
abbrev st_reachable : Stmt := top 2
def N_reachable : List Str := ["rows", "first"]
def d_reachable : DefD := ⟨("reachable", none), "reachable", "reachable", defArgs st_reachable, defBody st_reachable, defScope st_reachable, [], []⟩
theorem sc_reachable : FnScope N_reachable ["rows", "first"] (defScope st_reachable) := ⟨rfl, rfl, rfl, by decide +kernel, rfl, by decide +kernel, by decide +kernel⟩
def s_reachable_1 : FS := sRet (vCallG 3 F_spread (vCons (vV 0) (vCons (vListRg (vCall gLen (vCons (vV 0) (vNil)))) (vCons (vV 1) (vNil)))))
def g_reachable : FS := s_reachable_1
def F_reachable : FF := bodyF 2 [0, 1] g_reachable
/-! outline -/
abbrev st_outline : Stmt := top 9
def N_outline : List Str := ["rows", "first"]
def d_outline : DefD := ⟨("outline", none), "outline", "outline", defArgs st_outline, defBody st_outline, defScope st_outline, [], []⟩
theorem sc_outline : FnScope N_outline ["rows", "first"] (defScope st_outline) := ⟨rfl, rfl, rfl, by decide +kernel, rfl, by decide +kernel, by decide +kernel⟩
def s_outline_1 : FS := sRet (vCallG 4 (F_outline_of 130) (vCons (vV 0) (vCons (vCallG 2 F_reachable (vCons (vV 0) (vCons (vV 1) (vNil)))) (vCons (vV 1) (vCons (vLst (vNil)) (vNil))))))
def g_outline : FS := s_outline_1
def F_outline : FF := bodyF 2 [0, 1] g_outline
/-! _law_reach -/
abbrev st_law_reach : Stmt := top 15
def N_law_reach : List Str := ["rows", "chosen", "start", "known", "k", "goal"]
def d_law_reach : DefD := ⟨("_law_reach", none), "_law_reach", "_law_reach", defArgs st_law_reach, defBody st_law_reach, defScope st_law_reach, [], []⟩
theorem sc_law_reach : FnScope N_law_reach ["rows", "chosen", "start"] (defScope st_law_reach) := ⟨rfl, rfl, rfl, by decide +kernel, rfl, by decide +kernel, by decide +kernel⟩
def s_law_reach_5 : FS := sIf (vAnd (bnd (vOp (gInU false) (vV 5) (vV 1)) asB) (bnd (vOp (gInU true) (vV 5) (vV 3)) asB)) (sDrop (vMu muAppend (vV 3) (vCons (vV 5) (vNil)))) (sNil)
def s_law_reach_4 : FS := sFor (bnd (vOp gIxU (vOp gIxU (vV 0) (vOp gIxU (vV 3) (vV 4))) (vC (.int 2))) asS) (gN 5) (s_law_reach_5)
def s_law_reach_3 : FS := sIf (bnd (vOp gLt (vV 4) (vCall gLen (vCons (vV 3) (vNil)))) asB) (s_law_reach_4) (sNil)
def s_law_reach_2 : FS := sFor (bnd (vCons (vCall gLen (vCons (vV 0) (vNil))) (vNil)) fun ws => optF (dR1 ws)) (gN 4) (s_law_reach_3)
def g_law_reach : FS := sSeq (sSet 3 (vLst (vCons (vV 2) (vNil)))) (
  sSeq (s_law_reach_2) (
  sRet (vV 3)))
def F_law_reach : FF := bodyF 6 [0, 1, 2] g_law_reach
/-! _law_edges -/
abbrev st_law_edges : Stmt := top 16
def N_law_edges : List Str := ["rows", "chosen", "edges", "one", "goal"]
def d_law_edges : DefD := ⟨("_law_edges", none), "_law_edges", "_law_edges", defArgs st_law_edges, defBody st_law_edges, defScope st_law_edges, [], []⟩
theorem sc_law_edges : FnScope N_law_edges ["rows", "chosen"] (defScope st_law_edges) := ⟨rfl, rfl, rfl, by decide +kernel, rfl, by decide +kernel, by decide +kernel⟩
def s_law_edges_3 : FS := sSe seU (vSrtS (vLc 5 [4] (bnd (vOp gIxU (vOp gIxU (vV 0) (vV 3)) (vC (.int 2))) asS) (gN 4) (bnd (vOp gNe (vV 4) (vV 3)) asB) (vV 4))) (vV 2) (vV 3)
def g_law_edges : FS := sSeq (sSet 2 (vNewK)) (
  sSeq (sFor (bnd (vV 1) asS) (gN 3) (s_law_edges_3)) (
  sRet (vV 2)))
def F_law_edges : FF := bodyF 5 [0, 1] g_law_edges
/-! _law_merge -/
abbrev st_law_merge : Stmt := top 17
def N_law_merge : List Str := ["edges", "one", "other", "joined", "del_done", "key", "goal"]
def d_law_merge : DefD := ⟨("_law_merge", none), "_law_merge", "_law_merge", defArgs st_law_merge, defBody st_law_merge, defScope st_law_merge, [], []⟩
theorem sc_law_merge : FnScope N_law_merge ["edges", "one", "other"] (defScope st_law_merge) := ⟨rfl, rfl, rfl, by decide +kernel, rfl, by decide +kernel, by decide +kernel⟩
def s_law_merge_1 : FS := sSetF 3 (vSrtS (vOp gAdd (vOp gIxU (vV 0) (vV 1)) (vOp gIxU (vV 0) (vV 2))))
def s_law_merge_2 : FS := sSe seU (vLc 7 [6] (bnd (vV 3) asS) (gN 6) (vAnd (bnd (vOp gNe (vV 6) (vV 1)) asB) (bnd (vOp gNe (vV 6) (vV 2)) asB)) (vV 6)) (vV 0) (vV 1)
def s_law_merge_5 : FS := sIf (bnd (vOp gNe (vV 5) (vV 2)) asB) (sSe seU (vOp gIxU (vV 0) (vV 5)) (vV 4) (vV 5)) (sNil)
def g_law_merge : FS := sSeq (s_law_merge_1) (
  sSeq (s_law_merge_2) (
  sSeq (sSet 4 (vNewK)) (
  sSeq (sThaw 0 (sForK 0 (gN 5) (s_law_merge_5))) (
  sRet (vV 4)))))
def F_law_merge : FF := bodyF 7 [0, 1, 2] g_law_merge
/-! _law_reducible -/
abbrev st_law_reducible : Stmt := top 18
def N_law_reducible : List Str := ["rows", "first", "chosen", "edges", "k", "merged", "other", "before", "one"]
def d_law_reducible : DefD := ⟨("_law_reducible", none), "_law_reducible", "_law_reducible", defArgs st_law_reducible, defBody st_law_reducible, defScope st_law_reducible, [], []⟩
theorem sc_law_reducible : FnScope N_law_reducible ["rows", "first"] (defScope st_law_reducible) := ⟨rfl, rfl, rfl, by decide +kernel, rfl, by decide +kernel, by decide +kernel⟩
def s_law_reducible_1 : FS := sSetF 2 (vCallG 3 F_law_reach (vCons (vV 0) (vCons (vListRg (vCall gLen (vCons (vV 0) (vNil)))) (vCons (vV 1) (vNil)))))
def s_law_reducible_2 : FS := sSet 3 (vCallG 2 F_law_edges (vCons (vV 0) (vCons (vV 2) (vNil))))
def s_law_reducible_7 : FS := sSet 7 (vLcK 9 3 [8] (gN 8) (bnd (vOp (gInU false) (vV 6) (vOp gIxU (vV 3) (vV 8))) asB) (vV 8))
def s_law_reducible_9 : FS := sSetF 5 (vTup (vCons (vOp gIxU (vV 7) (vC (.int 0))) (vCons (vV 6) (vNil))))
def s_law_reducible_8 : FS := sIf (bnd (vOp gEq (vCall gLen (vCons (vV 7) (vNil))) (vC (.int 1))) asB) (s_law_reducible_9) (sNil)
def s_law_reducible_6 : FS := sIf (vAnd (bnd (vOp (gIsU false) (vV 5) (vC .non)) asB) (bnd (vOp gNe (vV 6) (vV 1)) asB)) (sSeq (s_law_reducible_7) (
  s_law_reducible_8)) (sNil)
def s_law_reducible_10 : FS := sIf (bnd (vOp (gIsU false) (vV 5) (vC .non)) asB) (fun ρ => some (.brk ρ)) (sNil)
def s_law_reducible_12 : FS := sSet 3 (vCallG 3 F_law_merge (vCons (vV 3) (vCons (vOp gIxU (vV 5) (vC (.int 0))) (vCons (vOp gIxU (vV 5) (vC (.int 1))) (vNil)))))
def b_law_reducible_3 : FS := sSeq (sSetF 5 (vC .non)) (
  sSeq (sThaw 3 (sForK 3 (gN 6) (s_law_reducible_6))) (
  sSeq (s_law_reducible_10) (
  s_law_reducible_12)))
def s_law_reducible_3 : FS := sFor (bnd (vCons (vCall gLen (vCons (vV 2) (vNil))) (vNil)) fun ws => optF (dR1 ws)) (gN 4) (b_law_reducible_3)
def s_law_reducible_13 : FS := sRet (vOp gEq (vCall gLenK (vCons (vV 3) (vNil))) (vC (.int 1)))
def g_law_reducible : FS := sSeq (s_law_reducible_1) (
  sSeq (s_law_reducible_2) (
  sSeq (s_law_reducible_3) (
  s_law_reducible_13)))
def F_law_reducible : FF := bodyF 9 [0, 1] g_law_reducible
/-! law -/
abbrev st_law : Stmt := top 19
def N_law : List Str := ["script", "built", "rows", "k", "first", "actual"]
def d_law : DefD := ⟨("law", none), "law", "law", defArgs st_law, defBody st_law, defScope st_law, [], []⟩
theorem sc_law : FnScope N_law ["script"] (defScope st_law) := ⟨rfl, rfl, rfl, by decide +kernel, rfl, by decide +kernel, by decide +kernel⟩
def s_law_1 : FS := sSet 1 (vCallG 1 F_law_drawn (vCons (vV 0) (vNil)))
def s_law_6 : FS := sSetF 4 (vCallG 2 F_law_draw (vCons (vPt 1 2) (vCons (vCall gLen (vCons (vV 2) (vNil))) (vNil))))
def s_law_5 : FS := sIf (bnd (vOp gEq (vV 3) (vC (.int 1))) asB) (s_law_6) (sNil)
def s_law_7 : FS := sSetF 5 (vCallG 2 F_outline (vCons (vCall gListU (vCons (vV 2) (vNil))) (vCons (vV 4) (vNil))))
def s_law_8 : FS := sIf (vOr (vNot (bnd (vCall (gIsi (kfOf iL)) (vCons (vV 5) (vCons (vC (.ty "tuple")) (vNil)))) asT)) (bnd (vOp gNe (vOp gEq (vOp gIxU (vV 5) (vC (.int 0))) (vC (.str "structured"))) (vCallG 2 F_law_reducible (vCons (vV 2) (vCons (vV 4) (vNil))))) asB)) (sRet (vC (.bl false))) (sNil)
def b_law_3 : FS := sSeq (sSetF 4 (vPt 1 1)) (
  sSeq (s_law_5) (
  sSeq (s_law_7) (
  s_law_8)))
def s_law_3 : FS := sFor (bnd (vCons (vC (.int 2)) (vNil)) fun ws => optF (dR1 ws)) (gN 3) (b_law_3)
def g_law : FS := sSeq (s_law_1) (
  sSeq (sSetF 2 (vPt 1 0)) (
  sSeq (s_law_3) (
  sRet (vC (.bl true)))))
def F_law : FF := bodyF 6 [0] g_law
def fas : List Fa := [.glo "law", .free "super", .glo "_law_drawn", .free "range", .free "len", .glo "_law_draw", .free "list", .glo "outline", .free "tuple", .free "isinstance", .glo "_law_reducible", .glo "_law_rows", .free "int", .glo "_law_next", .free "min", .glo "reachable", .glo "outline_of", .free "any", .code ("outline_of", none) "outline_of", .glo "head_shape", .glo "components", .glo "entered_at", .glo "jump", .glo "spread", .free "all", .code ("components", none) "components", .free "sorted", .code ("entered_at", none) "entered_at", .glo "_law_reach", .glo "_law_edges", .glo "_law_merge", .free "set"]
def fns : List DefD := [d_law_draw, d_law_next, d_law_rows, d_law_drawn, d_jump, d_head_shape, d_spread, d_components, d_entered_at, d_outline_of, d_reachable, d_outline, d_law_reach, d_law_edges, d_law_merge, d_law_reducible, d_law]
def tfs : List Defn := [("outline_of", none), ("components", none), ("entered_at", none)]
def xfs : List XDef := []
def exs (K : PySem.W.Frag) : Bool := ((isB K iL) && (isEB K xL))
section
variable {w : World} {K : PySem.W.Frag} {mg : Str → Option Value} {base : Heap}
theorem exI (z : Zf fas fns tfs exs K mg base) : isB K iL = true := (ba z.more).1
theorem exE (z : Zf fas fns tfs exs K mg base) : isEB K xL = true := (ba z.more).2
theorem ok_law_draw (z : Zf fas fns tfs exs K mg base) (y0 : Yf xfs K) : DOk PP w (vbOf K tfs) mg base 1 (fAd K ("_law_draw", none)) ["state", "limit"] 2 F_law_draw :=
  body_okD (d := d_law_draw) (N := N_law_draw) (k := 0) (bor := [0, 1]) (g := g_law_draw) rfl (z.df 0 d_law_draw rfl) sc_law_draw (fun _ _ _ _ _ _ us hl => match us, hl with | [_, _], _ => rfl)
    fun cdv A outer s H E hc h =>
  (vss_cons (vs_if (t_cmp c_lt (x_ixU h.rm (ve_v 0) ve_int) (ve_v 1)) (vss_cons (vs_setF sc_law_draw.nd rfl (Or.inl rfl) (x_ixU h.rm (ve_v 0) ve_int))
  (vss_cons (x_seU h.rm (x_add (ve_v 3) ve_int) (ve_v 0) ve_int)
  (vss_cons (vs_setF sc_law_draw.nd rfl (Or.inl rfl) ve_int)
  (vss_cons (vs_if (t_cmp c_lt (ve_v 3) (x_len (z.free 4) (va_cons (x_ixU h.rm (ve_v 0) ve_int) va_nil))) (vss_one (vs_setF sc_law_draw.nd rfl (Or.inl rfl) (x_ixU h.rm (x_ixU h.rm (ve_v 0) ve_int) (ve_v 3)))) vss_nil)
  (vss_one (vs_if (t_cmp c_ge (ve_v 4) (x_pow ve_int ve_int)) (vss_one (x_seU h.rm (ve_v 4) (ve_v 0) ve_int)) (vss_cons (x_seU h.rm (x_mod (x_int (z.free 12) (va_cons (x_mulU (x_add (x_add (x_add (x_ixU h.rm (ve_v 0) ve_int) (x_mod (x_int (z.free 12) (va_cons (ve_v 4) va_nil)) ve_int)) (ve_v 3)) ve_int) ve_int) va_nil)) ve_int) (ve_v 0) ve_int)
  (vss_cons (vs_setF sc_law_draw.nd rfl (Or.inl rfl) (x_mod (x_int (z.free 12) (va_cons (x_add (x_mulU (x_ixU h.rm (ve_v 0) ve_int) ve_int) ve_int) va_nil)) ve_int))
  (vss_one (x_seU h.rm (x_add (x_mulU (ve_v 5) ve_int) (x_mod (x_int (z.free 12) (va_cons (x_add (x_mulU (ve_v 5) ve_int) (x_ixU h.rm (ve_v 0) ve_int)) va_nil)) ve_int)) (ve_v 0) ve_int)))))))))) vss_nil)
  (vss_cons (vs_setF sc_law_draw.nd rfl (Or.inl rfl) (x_mod (x_int (z.free 12) (va_cons (x_ixU h.rm (ve_v 0) ve_int) va_nil)) (ve_v 1)))
  (vss_cons (x_seU h.rm (x_fdiv (x_ixU h.rm (ve_v 0) ve_int) (ve_v 1)) (ve_v 0) ve_int)
  (vss_one (vs_ret (ve_v 2))))))
theorem ok_law_next (z : Zf fas fns tfs exs K mg base) (y0 : Yf xfs K) : DOk PP w (vbOf K tfs) mg base 2 (fAd K ("_law_next", none)) ["state", "at", "many", "kind"] 4 F_law_next :=
  body_okD (d := d_law_next) (N := N_law_next) (k := 1) (bor := [0, 1, 2, 3]) (g := g_law_next) rfl (z.df 1 d_law_next rfl) sc_law_next (fun _ _ _ _ _ _ us hl => match us, hl with | [_, _, _, _], _ => rfl)
    fun cdv A outer s H E hc h =>
  (vss_cons (vs_if (t_cmp (c_eq h.rm) (ve_v 3) ve_int) (vss_one (vs_ret (ve_callD (ok_law_draw z y0) (h.rm.mono (show 1 ≤ 1 by decide)) h.tk rfl (z.glo 5) (va_cons (ve_v 0) (va_cons (ve_v 2) va_nil))))) vss_nil)
  (vss_cons (vs_setF sc_law_next.nd rfl (Or.inl rfl) (ve_callD (ok_law_draw z y0) (h.rm.mono (show 1 ≤ 1 by decide)) h.tk rfl (z.glo 5) (va_cons (ve_v 0) (va_cons ve_int va_nil))))
  (vss_cons (vs_if (t_cmp (c_eq h.rm) (ve_v 4) ve_int) (vss_one (vs_ret (ve_callD (ok_law_draw z y0) (h.rm.mono (show 1 ≤ 1 by decide)) h.tk rfl (z.glo 5) (va_cons (ve_v 0) (va_cons (x_add (ve_v 1) ve_int) va_nil))))) vss_nil)
  (vss_cons (vs_if (VW.vt (vw_and (t_cmp (c_eq h.rm) (ve_v 4) ve_int) (vw_and1 (VW.vt (vw_or (t_cmp c_lt (ve_v 3) ve_int) (vw_or1 (VW.vt (vw_and (t_cmp (c_eq h.rm) (ve_v 3) ve_int) (vw_and1 (t_cmp (c_eq h.rm) (ve_callD (ok_law_draw z y0) (h.rm.mono (show 1 ≤ 1 by decide)) h.tk rfl (z.glo 5) (va_cons (ve_v 0) (va_cons ve_int va_nil))) ve_int)))))))))) (vss_one (vs_ret (x_min rfl (z.free 14) (va_cons (x_sub (ve_v 2) ve_int) (va_cons (x_add (x_add (ve_v 1) ve_int) (ve_callD (ok_law_draw z y0) (h.rm.mono (show 1 ≤ 1 by decide)) h.tk rfl (z.glo 5) (va_cons (ve_v 0) (va_cons ve_int va_nil)))) va_nil))))) vss_nil)
  (vss_one (vs_ret (x_min rfl (z.free 14) (va_cons (x_sub (ve_v 2) ve_int) (va_cons (x_add (ve_v 1) ve_int) va_nil)))))))))
theorem ok_law_rows (z : Zf fas fns tfs exs K mg base) (y0 : Yf xfs K) : DOk PP w (vbOf K tfs) mg base 3 (fAd K ("_law_rows", none)) ["state", "most"] 2 F_law_rows :=
  body_okD (d := d_law_rows) (N := N_law_rows) (k := 2) (bor := [0, 1]) (g := g_law_rows) rfl (z.df 2 d_law_rows rfl) sc_law_rows (fun _ _ _ _ _ _ us hl => match us, hl with | [_, _], _ => rfl)
    fun cdv A outer s H E hc h =>
  (vss_cons (vs_setF sc_law_rows.nd rfl (Or.inr rfl) (x_add ve_int (ve_callD (ok_law_draw z y0) (h.rm.mono (show 1 ≤ 2 by decide)) h.tk rfl (z.glo 5) (va_cons (ve_v 0) (va_cons (ve_v 1) va_nil)))))
  (vss_cons (vs_setF sc_law_rows.nd rfl (Or.inr rfl) (ve_callD (ok_law_draw z y0) (h.rm.mono (show 1 ≤ 2 by decide)) h.tk rfl (z.glo 5) (va_cons (ve_v 0) (va_cons ve_int va_nil))))
  (vss_cons (vs_if (t_cmp c_gt (ve_v 1) ve_int) (vss_cons (vs_setF sc_law_rows.nd rfl (Or.inr rfl) (x_add ve_int (ve_callD (ok_law_draw z y0) (h.rm.mono (show 1 ≤ 2 by decide)) h.tk rfl (z.glo 5) (va_cons (ve_v 0) (va_cons ve_int va_nil)))))
  (vss_one (vs_setF sc_law_rows.nd rfl (Or.inr rfl) (x_add ve_int (ve_callD (ok_law_draw z y0) (h.rm.mono (show 1 ≤ 2 by decide)) h.tk rfl (z.glo 5) (va_cons (ve_v 0) (va_cons ve_int va_nil))))))) vss_nil)
  (vss_cons (vs_set sc_law_rows.nd rfl (Or.inl rfl) (ve_lst va_nil))
  (vss_cons (vs_for h.ps rfl (vi_range1 (z.free 3) (va_cons (ve_v 2) va_nil)) (vg_name sc_law_rows.nd rfl (Or.inr rfl)) (vss_cons (vs_setF sc_law_rows.nd rfl (Or.inl rfl) (ve_callD (ok_law_draw z y0) (h.rm.mono (show 1 ≤ 2 by decide)) h.tk rfl (z.glo 5) (va_cons (ve_v 0) (va_cons ve_int va_nil))))
  (vss_cons (vs_setF sc_law_rows.nd rfl (Or.inl rfl) (x_add ve_int (ve_callD (ok_law_draw z y0) (h.rm.mono (show 1 ≤ 2 by decide)) h.tk rfl (z.glo 5) (va_cons (ve_v 0) (va_cons ve_int va_nil)))))
  (vss_cons (vs_if (t_cmp c_le (ve_v 6) ve_int) (vss_cons (vs_setF sc_law_rows.nd rfl (Or.inl rfl) (ve_tup (va_cons ve_str (va_cons (ve_tup (va_cons ve_str (va_cons (ve_v 5) va_nil))) va_nil))))
  (vss_one (vs_setF sc_law_rows.nd rfl (Or.inl rfl) (ve_tup (va_cons (ve_callD (ok_law_next z y0) (h.rm.mono (show 2 ≤ 2 by decide)) h.tk rfl (z.glo 13) (va_cons (ve_v 0) (va_cons (ve_v 5) (va_cons (ve_v 2) (va_cons (ve_v 3) va_nil))))) (va_cons (ve_callD (ok_law_next z y0) (h.rm.mono (show 2 ≤ 2 by decide)) h.tk rfl (z.glo 13) (va_cons (ve_v 0) (va_cons (ve_v 5) (va_cons (ve_v 2) (va_cons (ve_v 3) va_nil))))) va_nil)))))) (vss_one (vs_if (t_cmp (c_eq h.rm) (ve_v 6) ve_int) (vss_cons (vs_setF sc_law_rows.nd rfl (Or.inl rfl) (ve_tup (va_cons ve_str (va_cons (ve_tup (va_cons ve_str (va_cons (ve_v 5) va_nil))) va_nil))))
  (vss_cons (vs_setF sc_law_rows.nd rfl (Or.inl rfl) (x_add ve_int (ve_callD (ok_law_draw z y0) (h.rm.mono (show 1 ≤ 2 by decide)) h.tk rfl (z.glo 5) (va_cons (ve_v 0) (va_cons (x_add ve_int (x_mulU ve_int (x_int (z.free 12) (va_cons (ve_and (x_cmp c_lt (ve_v 2) ve_int) (ve_one (x_cmp (c_eq h.rm) (ve_callD (ok_law_draw z y0) (h.rm.mono (show 1 ≤ 2 by decide)) h.tk rfl (z.glo 5) (va_cons (ve_v 0) (va_cons ve_int va_nil))) ve_int))) va_nil)))) va_nil)))))
  (vss_one (vs_setF sc_law_rows.nd rfl (Or.inl rfl) (x_tuple (z.free 8) (va_cons (x_lc 12 sc_law_rows.nd (own := [("k", 11)]) rfl (vi_range1 (z.free 3) (va_cons (ve_v 10) va_nil)) rfl gLen_n (fun _ _ _ _ _ => (vg_name sc_law_rows.nd rfl (Or.inl rfl))) (fun _ _ _ _ _ => vts_nil) (fun _ _ _ _ _ => (ve_callD (ok_law_next z y0) (h.rm.mono (show 2 ≤ 2 by decide)) takes_W0 rfl (z.glo 13) (va_cons (ve_v 0) (va_cons (ve_v 5) (va_cons (ve_v 2) (va_cons (ve_v 3) va_nil))))))) va_nil)))))) (vss_one (vs_if (VW.vt (vw_or (VW.vt (vw_and (t_cmp (c_eq h.rm) (ve_v 6) ve_int) (vw_and1 (t_cmp c_lt (ve_v 3) ve_int)))) (vw_or1 (VW.vt (vw_and (t_cmp (c_eq h.rm) (x_add (ve_v 5) ve_int) (ve_v 2)) (vw_and1 (t_cmp c_gt (ve_callD (ok_law_draw z y0) (h.rm.mono (show 1 ≤ 2 by decide)) h.tk rfl (z.glo 5) (va_cons (ve_v 0) (va_cons ve_int va_nil))) ve_int))))))) (vss_cons (vs_setF sc_law_rows.nd rfl (Or.inl rfl) (x_ixU h.rm (ve_lst (va_cons (ve_tup (va_cons ve_str va_nil)) (va_cons (ve_tup (va_cons ve_str (va_cons (ve_v 5) va_nil))) (va_cons (ve_tup (va_cons ve_str (va_cons (ve_tup (va_cons (ve_tup (va_cons ve_str (va_cons (ve_v 5) va_nil))) va_nil)) va_nil))) (va_cons (ve_tup (va_cons ve_str va_nil)) va_nil))))) (ve_callD (ok_law_draw z y0) (h.rm.mono (show 1 ≤ 2 by decide)) h.tk rfl (z.glo 5) (va_cons (ve_v 0) (va_cons ve_int va_nil)))))
  (vss_one (vs_setF sc_law_rows.nd rfl (Or.inl rfl) (ve_tup va_nil)))) (vss_cons (vs_setF sc_law_rows.nd rfl (Or.inl rfl) (x_ixU h.rm (ve_lst (va_cons (ve_tup (va_cons ve_str (va_cons (ve_tup (va_cons ve_str (va_cons (ve_v 5) va_nil))) va_nil))) (va_cons (ve_tup (va_cons ve_str (va_cons (ve_v 5) va_nil))) (va_cons (ve_tup (va_cons ve_str va_nil)) (va_cons (ve_tup (va_cons ve_str (va_cons (ve_v 5) (va_cons (ve_tup (va_cons ve_str (va_cons ve_int va_nil))) va_nil)))) (va_cons (ve_tup (va_cons ve_str (va_cons (ve_v 5) va_nil))) (va_cons (ve_tup (va_cons ve_str (va_cons (ve_tup (va_cons ve_str (va_cons (ve_v 5) va_nil))) (va_cons (ve_tup (va_cons ve_str (va_cons ve_int va_nil))) va_nil)))) (va_cons (ve_tup (va_cons ve_str (va_cons (ve_tup va_nil) (va_cons ve_int (va_cons (ve_tup va_nil) (va_cons (ve_v 5) va_nil)))))) (va_cons (ve_tup (va_cons ve_str (va_cons (ve_tup (va_cons (ve_v 5) va_nil)) (va_cons (ve_tup (va_cons ve_str (va_cons ve_int va_nil))) (va_cons (ve_tup (va_cons ve_int (va_cons ve_int va_nil))) (va_cons (ve_tup (va_cons (ve_tup (va_cons ve_str (va_cons (ve_v 5) va_nil))) va_nil)) (va_cons ve_int va_nil))))))) va_nil))))))))) (ve_callD (ok_law_draw z y0) (h.rm.mono (show 1 ≤ 2 by decide)) h.tk rfl (z.glo 5) (va_cons (ve_v 0) (va_cons ve_int va_nil)))))
  (vss_one (vs_setF sc_law_rows.nd rfl (Or.inl rfl) (ve_tup (va_cons (ve_callD (ok_law_next z y0) (h.rm.mono (show 2 ≤ 2 by decide)) h.tk rfl (z.glo 13) (va_cons (ve_v 0) (va_cons (ve_v 5) (va_cons (ve_v 2) (va_cons (ve_v 3) va_nil))))) va_nil))))))))))
  (vss_one (vs_expr (x_append (ve_v 4) (va_cons (ve_tup (va_cons (ve_v 8) (va_cons (ve_v 7) (va_cons (ve_v 9) va_nil)))) va_nil))))))))
  (vss_one (vs_ret (ve_v 4))))))))
theorem ok_law_drawn (z : Zf fas fns tfs exs K mg base) (y0 : Yf xfs K) : DOk PP w (vbOf K tfs) mg base 4 (fAd K ("_law_drawn", none)) ["script"] 1 F_law_drawn :=
  body_okD (d := d_law_drawn) (N := N_law_drawn) (k := 3) (bor := [0]) (g := g_law_drawn) rfl (z.df 3 d_law_drawn rfl) sc_law_drawn (fun _ _ _ _ _ _ us hl => match us, hl with | [_], _ => rfl)
    fun cdv A outer s H E hc h =>
  (vss_cons (vs_set sc_law_drawn.nd rfl (Or.inl rfl) (ve_lst (va_cons ve_int (va_cons ve_int (va_cons (x_listU (z.free 6) (va_cons (ve_v 0) va_nil)) (va_cons ve_int va_nil))))))
  (vss_cons (vs_setF sc_law_drawn.nd rfl (Or.inl rfl) ve_int)
  (vss_cons (vs_if (t_cmp (c_eq h.rm) (ve_callD (ok_law_draw z y0) (h.rm.mono (show 1 ≤ 3 by decide)) h.tk rfl (z.glo 5) (va_cons (ve_v 1) (va_cons ve_int va_nil))) ve_int) (vss_one (vs_setF sc_law_drawn.nd rfl (Or.inl rfl) ve_int)) vss_nil)
  (vss_cons (vs_if (t_cmp (c_eq h.rm) (ve_callD (ok_law_draw z y0) (h.rm.mono (show 1 ≤ 3 by decide)) h.tk rfl (z.glo 5) (va_cons (ve_v 1) (va_cons ve_int va_nil))) ve_int) (vss_one (vs_setF sc_law_drawn.nd rfl (Or.inl rfl) ve_int)) vss_nil)
  (vss_cons (vs_setF sc_law_drawn.nd rfl (Or.inl rfl) (ve_callD (ok_law_rows z y0) (h.rm.mono (show 3 ≤ 3 by decide)) h.tk rfl (z.glo 11) (va_cons (ve_v 1) (va_cons (ve_v 2) va_nil))))
  (vss_cons (vs_setF sc_law_drawn.nd rfl (Or.inl rfl) ve_int)
  (vss_cons (vs_if (t_cmp (c_eq h.rm) (ve_callD (ok_law_draw z y0) (h.rm.mono (show 1 ≤ 3 by decide)) h.tk rfl (z.glo 5) (va_cons (ve_v 1) (va_cons ve_int va_nil))) ve_int) (vss_one (vs_setF sc_law_drawn.nd rfl (Or.inl rfl) (ve_callD (ok_law_draw z y0) (h.rm.mono (show 1 ≤ 3 by decide)) h.tk rfl (z.glo 5) (va_cons (ve_v 1) (va_cons (x_len (z.free 4) (va_cons (ve_v 3) va_nil)) va_nil))))) vss_nil)
  (vss_one (vs_ret (x_lstP (va_cons (ve_v 3) (va_cons (ve_v 4) (va_cons (ve_v 1) va_nil)))))))))))))
theorem ok_jump (z : Zf fas fns tfs exs K mg base) (y0 : Yf xfs K) : DOk PP w (vbOf K tfs) mg base 1 (fAd K ("jump", none)) ["labels", "number"] 2 F_jump :=
  body_okD (d := d_jump) (N := N_jump) (k := 0) (bor := [0, 1]) (g := g_jump) rfl (z.df 4 d_jump rfl) sc_jump (fun _ _ _ _ _ _ us hl => match us, hl with | [_, _], _ => rfl)
    fun cdv A outer s H E hc h =>
  (vss_cons (vs_if (t_cmp (c_inU h.rm) (ve_v 1) (ve_v 0)) (vss_one (vs_ret (ve_tup (va_cons ve_str (va_cons (ve_v 1) va_nil))))) vss_nil)
  (vss_one (vs_ret (ve_tup (va_cons ve_str (va_cons (ve_v 1) va_nil))))))
theorem ok_head_shape (z : Zf fas fns tfs exs K mg base) (y0 : Yf xfs K) : DOk PP w (vbOf K tfs) mg base 2 (fAd K ("head_shape", none)) ["rows", "head", "labels"] 3 F_head_shape :=
  body_okD (d := d_head_shape) (N := N_head_shape) (k := 1) (bor := [0, 1, 2]) (g := g_head_shape) rfl (z.df 5 d_head_shape rfl) sc_head_shape (fun _ _ _ _ _ _ us hl => match us, hl with | [_, _, _], _ => rfl)
    fun cdv A outer s H E hc h =>
  (vss_cons (vs_setF sc_head_shape.nd rfl (Or.inl rfl) (x_ixU h.rm (x_ixU h.rm (ve_v 0) (ve_v 1)) ve_int))
  (vss_cons (vs_setF sc_head_shape.nd rfl (Or.inl rfl) (x_ixU h.rm (x_ixU h.rm (ve_v 0) (ve_v 1)) ve_int))
  (vss_cons (vs_if (t_cmp (c_eq h.rm) (x_ixU h.rm (ve_v 3) ve_int) ve_str) (vss_one (vs_ret (ve_tup (va_cons (ve_tup (va_cons ve_str (va_cons (ve_v 1) (va_cons (ve_tup (va_cons (ve_callD (ok_jump z y0) (h.rm.mono (show 1 ≤ 1 by decide)) h.tk rfl (z.glo 22) (va_cons (ve_v 2) (va_cons (x_ixU h.rm (ve_v 4) ve_int) va_nil))) va_nil)) (va_cons (ve_tup (va_cons (ve_callD (ok_jump z y0) (h.rm.mono (show 1 ≤ 1 by decide)) h.tk rfl (z.glo 22) (va_cons (ve_v 2) (va_cons (x_ixU h.rm (ve_v 4) ve_int) va_nil))) va_nil)) va_nil))))) va_nil)))) vss_nil)
  (vss_cons (vs_if (t_cmp (c_eq h.rm) (x_ixU h.rm (ve_v 3) ve_int) ve_str) (vss_one (vs_ret (ve_tup (va_cons (ve_tup (va_cons ve_str (va_cons (ve_v 1) (va_cons (x_tuple (z.free 8) (va_cons (x_lc 6 sc_head_shape.nd (own := [("number", 5)]) rfl (vi_seq rfl (ve_v 4)) rfl gLen_n (fun _ _ _ _ _ => (vg_name sc_head_shape.nd rfl (Or.inl rfl))) (fun _ _ _ _ _ => vts_nil) (fun _ _ _ _ _ => (ve_tup (va_cons (ve_callD (ok_jump z y0) (h.rm.mono (show 1 ≤ 1 by decide)) takes_W0 rfl (z.glo 22) (va_cons (ve_v 2) (va_cons (ve_v 5) va_nil))) va_nil)))) va_nil)) va_nil)))) va_nil)))) vss_nil)
  (vss_cons (vs_if (vt_not (t_tru (ve_v 4))) (vss_one (vs_ret (ve_tup (va_cons (ve_tup (va_cons ve_str (va_cons (ve_v 1) va_nil))) va_nil)))) vss_nil)
  (vss_one (vs_ret (ve_tup (va_cons (ve_tup (va_cons ve_str (va_cons (ve_v 1) va_nil))) (va_cons (ve_callD (ok_jump z y0) (h.rm.mono (show 1 ≤ 1 by decide)) h.tk rfl (z.glo 22) (va_cons (ve_v 2) (va_cons (x_ixU h.rm (ve_v 4) ve_int) va_nil))) va_nil))))))))))
theorem ok_spread (z : Zf fas fns tfs exs K mg base) (y0 : Yf xfs K) : DOk PP w (vbOf K tfs) mg base 1 (fAd K ("spread", none)) ["rows", "chosen", "start"] 3 F_spread :=
  body_okD (d := d_spread) (N := N_spread) (k := 0) (bor := [0, 1, 2]) (g := g_spread) rfl (z.df 6 d_spread rfl) sc_spread (fun _ _ _ _ _ _ us hl => match us, hl with | [_, _, _], _ => rfl)
    fun cdv A outer s H E hc h =>
  (vss_cons (vs_set sc_spread.nd rfl (Or.inl rfl) (ve_lst (va_cons (ve_v 2) va_nil)))
  (vss_cons (vs_setF sc_spread.nd rfl (Or.inl rfl) ve_int)
  (vss_cons (vs_while (fun _ => 1000000) h.ps (t_cmp c_lt (ve_v 4) (x_len (z.free 4) (va_cons (ve_v 3) va_nil))) (vss_cons (vs_for h.ps rfl (vi_seq rfl (x_ixU h.rm (x_ixU h.rm (ve_v 0) (x_ixU h.rm (ve_v 3) (ve_v 4))) ve_int)) (vg_name sc_spread.nd rfl (Or.inl rfl)) (vss_one (vs_if (VW.vt (vw_and (t_cmp (c_inU h.rm) (ve_v 5) (ve_v 1)) (vw_and1 (t_cmp (c_notinU h.rm) (ve_v 5) (ve_v 3))))) (vss_one (vs_expr (x_append (ve_v 3) (va_cons (ve_v 5) va_nil)))) vss_nil)))
  (vss_one (vs_aug sc_spread.nd rfl (Or.inl rfl) ip_add ve_int))))
  (vss_one (vs_ret (x_sorted (z.free 26) (va_cons (ve_v 3) va_nil)))))))
theorem ok_components (z : Zf fas fns tfs exs K mg base) (y0 : Yf xfs K) : DOk PP w (vbOf K tfs) mg base 2 (fAd K ("components", none)) ["rows", "chosen"] 2 F_components :=
  body_okD (d := d_components) (N := N_components) (k := 1) (bor := [0, 1]) (g := g_components) rfl (z.df 7 d_components rfl) sc_components (fun _ _ _ _ _ _ us hl => match us, hl with | [_, _], _ => rfl)
    fun cdv A outer s H E hc h =>
  (vss_cons (vs_setF sc_components.nd rfl (Or.inr rfl) (x_listU (z.free 6) (va_cons (ve_v 1) va_nil)))
  (vss_cons (vs_set sc_components.nd rfl (Or.inl rfl) (ve_lst va_nil))
  (vss_cons (vs_while (fun _ => 1000000) h.ps (t_tru (ve_v 2)) (vss_cons (vs_setF sc_components.nd rfl (Or.inr rfl) (x_dc (own := [("number", 6)]) 9 sc_components.nd rfl (vi_seq rfl (ve_v 2)) rfl gLen_n (fun _ _ _ _ _ => (vg_name sc_components.nd rfl (Or.inl rfl))) (fun _ _ _ _ _ => vts_nil) (fun _ _ _ _ _ => (ve_v 6)) (fun _ _ _ _ _ => (ve_callD (ok_spread z y0) (h.rm.mono (show 1 ≤ 1 by decide)) takes_W0 rfl (z.glo 23) (va_cons (ve_v 0) (va_cons (ve_v 2) (va_cons (ve_v 6) va_nil)))))))
  (vss_cons (vs_setF sc_components.nd rfl (Or.inr rfl) (x_ixU h.rm (ve_v 2) ve_int))
  (vss_cons (vs_for h.ps rfl (vi_seq rfl (ve_v 2)) (vg_name sc_components.nd rfl (Or.inr rfl)) (vss_one (vs_if (t_tru (x_allX (k := 0) (own := [("other", 8)]) 9 (h.rm.mono (show 0 + 1 ≤ 1 by decide)) (z.free 24) (z.tb ("components", none) (List.mem_of_getElem? (show tfs[1]? = _ from rfl))) (z.code (List.mem_of_getElem? (show tfs[1]? = _ from rfl)) hc ⟨25, _, rfl⟩) ⟨("components", none), (List.mem_of_getElem? (show tfs[1]? = _ from rfl)), rfl⟩ sc_components.nd rfl (vi_seq rfl (ve_v 2)) rfl gLen_n (fun _ _ _ _ _ _ _ _ rm1 => (vg_name sc_components.nd rfl (Or.inl rfl))) (fun _ _ _ _ _ _ _ _ rm1 => vts_nil) (fun _ _ _ _ _ _ _ _ rm1 => (ve_or (x_cmp (c_notinU rm1) (ve_v 6) (x_ixU rm1 (ve_v 4) (ve_v 8))) (ve_one (x_cmp (c_inU rm1) (ve_v 8) (x_ixU rm1 (ve_v 4) (ve_v 6)))))))) (vss_cons (vs_setF sc_components.nd rfl (Or.inr rfl) (ve_v 6))
  (vss_one vs_break)) vss_nil)))
  (vss_cons (vs_setF sc_components.nd rfl (Or.inr rfl) (x_lc 9 sc_components.nd (own := [("number", 6)]) rfl (vi_seq rfl (ve_v 2)) rfl gLen_n (fun _ _ _ _ _ => (vg_name sc_components.nd rfl (Or.inl rfl))) (fun _ _ _ _ _ => (vts_one (VW.vt (vw_and (t_cmp (c_inU h.rm) (ve_v 6) (x_ixU h.rm (ve_v 4) (ve_v 5))) (vw_and1 (t_cmp (c_inU h.rm) (ve_v 5) (x_ixU h.rm (ve_v 4) (ve_v 6)))))))) (fun _ _ _ _ _ => (ve_v 6))))
  (vss_cons (vs_expr (x_append (ve_v 3) (va_cons (ve_v 7) va_nil)))
  (vss_one (vs_setF sc_components.nd rfl (Or.inr rfl) (x_lc 9 sc_components.nd (own := [("number", 6)]) rfl (vi_seq rfl (ve_v 2)) rfl gLen_n (fun _ _ _ _ _ => (vg_name sc_components.nd rfl (Or.inl rfl))) (fun _ _ _ _ _ => (vts_one (t_cmp (c_notinU h.rm) (ve_v 6) (ve_v 7)))) (fun _ _ _ _ _ => (ve_v 6)))))))))))
  (vss_one (vs_ret (ve_v 3))))))
theorem ok_entered_at (z : Zf fas fns tfs exs K mg base) (y0 : Yf xfs K) : DOk PP w (vbOf K tfs) mg base 2 (fAd K ("entered_at", none)) ["rows", "region", "component"] 3 F_entered_at :=
  body_okD (d := d_entered_at) (N := N_entered_at) (k := 1) (bor := [0, 1, 2]) (g := g_entered_at) rfl (z.df 8 d_entered_at rfl) sc_entered_at (fun _ _ _ _ _ _ us hl => match us, hl with | [_, _, _], _ => rfl)
    fun cdv A outer s H E hc h =>
  (vss_cons (vs_setF sc_entered_at.nd rfl (Or.inr rfl) (x_lc 6 sc_entered_at.nd (own := [("number", 4)]) rfl (vi_seq rfl (ve_v 1)) rfl gLen_n (fun _ _ _ _ _ => (vg_name sc_entered_at.nd rfl (Or.inl rfl))) (fun _ _ _ _ _ => (vts_one (t_cmp (c_notinU h.rm) (ve_v 4) (ve_v 2)))) (fun _ _ _ _ _ => (ve_v 4))))
  (vss_one (vs_ret (x_lc 6 sc_entered_at.nd (own := [("goal", 5)]) rfl (vi_seq rfl (ve_v 2)) rfl gLen_n (fun _ _ _ _ _ => (vg_name sc_entered_at.nd rfl (Or.inr rfl))) (fun _ _ _ _ _ => (vts_one (t_tru (x_anyX (k := 0) (own := [("number", 4)]) 6 (h.rm.mono (show 0 + 1 ≤ 1 by decide)) (z.free 17) (z.tb ("entered_at", none) (List.mem_of_getElem? (show tfs[2]? = _ from rfl))) (z.code (List.mem_of_getElem? (show tfs[2]? = _ from rfl)) hc ⟨27, _, rfl⟩) ⟨("entered_at", none), (List.mem_of_getElem? (show tfs[2]? = _ from rfl)), rfl⟩ sc_entered_at.nd rfl (vi_seq rfl (ve_v 3)) rfl gLen_n (fun _ _ _ _ _ _ _ _ rm1 => (vg_name sc_entered_at.nd rfl (Or.inl rfl))) (fun _ _ _ _ _ _ _ _ rm1 => vts_nil) (fun _ _ _ _ _ _ _ _ rm1 => (x_cmp (c_inU rm1) (ve_v 5) (x_ixU rm1 (x_ixU rm1 (ve_v 0) (ve_v 4)) ve_int))))))) (fun _ _ _ _ _ => (ve_v 5))))))
theorem ok_outline_of (z : Zf fas fns tfs exs K mg base) (y0 : Yf xfs K) : ∀ n : Nat, DOk PP w (vbOf K tfs) mg base (3 + n) (fAd K ("outline_of", none)) ["rows", "region", "head", "labels"] 4 (F_outline_of n)
  | 0 => body_okD (d := d_outline_of) (N := N_outline_of) (k := 2) (bor := [0, 1, 2, 3]) (g := sBot) rfl (z.df 9 d_outline_of rfl) sc_outline_of (fun _ _ _ _ _ _ us hl => match us, hl with | [_, _, _, _], _ => rfl)
    fun cdv A outer s H E hc h =>
  vss_bot
  | n + 1 => body_okD (d := d_outline_of) (N := N_outline_of) (k := 3 + n) (bor := [0, 1, 2, 3]) (g := (g_outline_of (F_outline_of n))) rfl (z.df 9 d_outline_of rfl) sc_outline_of (fun _ _ _ _ _ _ us hl => match us, hl with | [_, _, _, _], _ => rfl)
    fun cdv A outer s H E hc h =>
  (vss_cons (vs_setF sc_outline_of.nd rfl (Or.inl rfl) (x_anyX (k := (2 + n)) (own := [("number", 10)]) 11 (h.rm.mono (show (2 + n) + 1 ≤ (3 + n) by omega)) (z.free 17) (z.tb ("outline_of", none) (List.mem_of_getElem? (show tfs[0]? = _ from rfl))) (z.code (List.mem_of_getElem? (show tfs[0]? = _ from rfl)) hc ⟨18, _, rfl⟩) ⟨("outline_of", none), (List.mem_of_getElem? (show tfs[0]? = _ from rfl)), rfl⟩ sc_outline_of.nd rfl (vi_seq rfl (ve_v 1)) rfl gLen_n (fun _ _ _ _ _ _ _ _ rm1 => (vg_name sc_outline_of.nd rfl (Or.inl rfl))) (fun _ _ _ _ _ _ _ _ rm1 => vts_nil) (fun _ _ _ _ _ _ _ _ rm1 => (x_cmp (c_inU rm1) (ve_v 2) (x_ixU rm1 (x_ixU rm1 (ve_v 0) (ve_v 10)) ve_int)))))
  (vss_cons (vs_setF sc_outline_of.nd rfl (Or.inl rfl) (ve_if (t_tru (ve_v 4)) (x_add (ve_v 3) (ve_lst (va_cons (ve_v 2) va_nil))) (ve_v 3)))
  (vss_cons (vs_setF sc_outline_of.nd rfl (Or.inl rfl) (ve_callD (ok_head_shape z y0) (h.rm.mono (show 2 ≤ (3 + n) by omega)) h.tk rfl (z.glo 19) (va_cons (ve_v 0) (va_cons (ve_v 2) (va_cons (ve_v 5) va_nil)))))
  (vss_cons (vs_for h.ps rfl (vi_seq rfl (ve_callD (ok_components z y0) (h.rm.mono (show 2 ≤ (3 + n) by omega)) h.tk rfl (z.glo 20) (va_cons (ve_v 0) (va_cons (x_lc 11 sc_outline_of.nd (own := [("number", 10)]) rfl (vi_seq rfl (ve_v 1)) rfl gLen_n (fun _ _ _ _ _ => (vg_name sc_outline_of.nd rfl (Or.inl rfl))) (fun _ _ _ _ _ => (vts_one (t_cmp (c_ne h.rm) (ve_v 10) (ve_v 2)))) (fun _ _ _ _ _ => (ve_v 10))) va_nil)))) (vg_name sc_outline_of.nd rfl (Or.inl rfl)) (vss_cons (vs_setF sc_outline_of.nd rfl (Or.inl rfl) (ve_callD (ok_entered_at z y0) (h.rm.mono (show 2 ≤ (3 + n) by omega)) h.tk rfl (z.glo 21) (va_cons (ve_v 0) (va_cons (ve_v 1) (va_cons (ve_v 7) va_nil)))))
  (vss_cons (vs_if (t_cmp c_gt (x_len (z.free 4) (va_cons (ve_v 8) va_nil)) ve_int) (vss_one (vs_ret (ve_tup (va_cons ve_str (va_cons (x_ixU h.rm (ve_v 8) ve_int) (va_cons (x_ixU h.rm (ve_v 8) ve_int) va_nil)))))) vss_nil)
  (vss_cons (vs_setF sc_outline_of.nd rfl (Or.inl rfl) (ve_callD (ok_outline_of z y0 n) (h.rm.mono (show (3 + n) ≤ (3 + n) by omega)) h.tk rfl (z.glo 16) (va_cons (ve_v 0) (va_cons (ve_v 7) (va_cons (x_ixU h.rm (ve_v 8) ve_int) (va_cons (ve_v 5) va_nil))))))
  (vss_cons (vs_if (t_cmp (c_eq h.rm) (x_ixU h.rm (ve_v 9) ve_int) ve_str) (vss_one (vs_ret (ve_v 9))) vss_nil)
  (vss_one (vs_setF sc_outline_of.nd rfl (Or.inl rfl) (x_add (ve_tup (va_cons (ve_tup (va_cons ve_str (va_cons (x_ixU h.rm (ve_v 8) ve_int) (va_cons (ve_v 6) va_nil)))) va_nil)) (x_ixU h.rm (ve_v 9) ve_int)))))))))
  (vss_cons (vs_if (t_tru (ve_v 4)) (vss_one (vs_setF sc_outline_of.nd rfl (Or.inl rfl) (ve_tup (va_cons (ve_tup (va_cons ve_str (va_cons (ve_v 2) (va_cons (ve_v 6) va_nil)))) va_nil)))) vss_nil)
  (vss_one (vs_ret (ve_tup (va_cons ve_str (va_cons (ve_v 6) va_nil))))))))))
theorem ok_reachable (z : Zf fas fns tfs exs K mg base) (y0 : Yf xfs K) : DOk PP w (vbOf K tfs) mg base 2 (fAd K ("reachable", none)) ["rows", "first"] 2 F_reachable :=
  body_okD (d := d_reachable) (N := N_reachable) (k := 1) (bor := [0, 1]) (g := g_reachable) rfl (z.df 10 d_reachable rfl) sc_reachable (fun _ _ _ _ _ _ us hl => match us, hl with | [_, _], _ => rfl)
    fun cdv A outer s H E hc h =>
  (vss_one (vs_ret (ve_callD (ok_spread z y0) (h.rm.mono (show 1 ≤ 1 by decide)) h.tk rfl (z.glo 23) (va_cons (ve_v 0) (va_cons (x_listRg (z.free 6) (z.free 3) (x_len (z.free 4) (va_cons (ve_v 0) va_nil))) (va_cons (ve_v 1) va_nil))))))
theorem ok_outline (z : Zf fas fns tfs exs K mg base) (y0 : Yf xfs K) : DOk PP w (vbOf K tfs) mg base 134 (fAd K ("outline", none)) ["rows", "first"] 2 F_outline :=
  body_okD (d := d_outline) (N := N_outline) (k := 133) (bor := [0, 1]) (g := g_outline) rfl (z.df 11 d_outline rfl) sc_outline (fun _ _ _ _ _ _ us hl => match us, hl with | [_, _], _ => rfl)
    fun cdv A outer s H E hc h =>
  (vss_one (vs_ret (ve_callD (ok_outline_of z y0 130) (h.rm.mono (show 133 ≤ 133 by decide)) h.tk rfl (z.glo 16) (va_cons (ve_v 0) (va_cons (ve_callD (ok_reachable z y0) (h.rm.mono (show 2 ≤ 133 by decide)) h.tk rfl (z.glo 15) (va_cons (ve_v 0) (va_cons (ve_v 1) va_nil))) (va_cons (ve_v 1) (va_cons (ve_lst va_nil) va_nil)))))))
theorem ok_law_reach (z : Zf fas fns tfs exs K mg base) (y0 : Yf xfs K) : DOk PP w (vbOf K tfs) mg base 1 (fAd K ("_law_reach", none)) ["rows", "chosen", "start"] 3 F_law_reach :=
  body_okD (d := d_law_reach) (N := N_law_reach) (k := 0) (bor := [0, 1, 2]) (g := g_law_reach) rfl (z.df 12 d_law_reach rfl) sc_law_reach (fun _ _ _ _ _ _ us hl => match us, hl with | [_, _, _], _ => rfl)
    fun cdv A outer s H E hc h =>
  (vss_cons (vs_set sc_law_reach.nd rfl (Or.inl rfl) (ve_lst (va_cons (ve_v 2) va_nil)))
  (vss_cons (vs_for h.ps rfl (vi_range1 (z.free 3) (va_cons (x_len (z.free 4) (va_cons (ve_v 0) va_nil)) va_nil)) (vg_name sc_law_reach.nd rfl (Or.inl rfl)) (vss_one (vs_if (t_cmp c_lt (ve_v 4) (x_len (z.free 4) (va_cons (ve_v 3) va_nil))) (vss_one (vs_for h.ps rfl (vi_seq rfl (x_ixU h.rm (x_ixU h.rm (ve_v 0) (x_ixU h.rm (ve_v 3) (ve_v 4))) ve_int)) (vg_name sc_law_reach.nd rfl (Or.inl rfl)) (vss_one (vs_if (VW.vt (vw_and (t_cmp (c_inU h.rm) (ve_v 5) (ve_v 1)) (vw_and1 (t_cmp (c_notinU h.rm) (ve_v 5) (ve_v 3))))) (vss_one (vs_expr (x_append (ve_v 3) (va_cons (ve_v 5) va_nil)))) vss_nil)))) vss_nil)))
  (vss_one (vs_ret (ve_v 3)))))
theorem ok_law_edges (z : Zf fas fns tfs exs K mg base) (y0 : Yf xfs K) : DOk PP w (vbOf K tfs) mg base 1 (fAd K ("_law_edges", none)) ["rows", "chosen"] 2 F_law_edges :=
  body_okD (d := d_law_edges) (N := N_law_edges) (k := 0) (bor := [0, 1]) (g := g_law_edges) rfl (z.df 13 d_law_edges rfl) sc_law_edges (fun _ _ _ _ _ _ us hl => match us, hl with | [_, _], _ => rfl)
    fun cdv A outer s H E hc h =>
  (vss_cons (vs_set sc_law_edges.nd rfl (Or.inl rfl) x_newK)
  (vss_cons (vs_for h.ps rfl (vi_seq rfl (ve_v 1)) (vg_name sc_law_edges.nd rfl (Or.inr rfl)) (vss_one (x_seU h.rm (x_srtS (z.free 26) (z.free 31) (x_lc 5 sc_law_edges.nd (own := [("goal", 4)]) rfl (vi_seq rfl (x_ixU h.rm (x_ixU h.rm (ve_v 0) (ve_v 3)) ve_int)) rfl gLen_n (fun _ _ _ _ _ => (vg_name sc_law_edges.nd rfl (Or.inl rfl))) (fun _ _ _ _ _ => (vts_one (t_cmp (c_ne h.rm) (ve_v 4) (ve_v 3)))) (fun _ _ _ _ _ => (ve_v 4)))) (ve_v 2) (ve_v 3))))
  (vss_one (vs_ret (ve_v 2)))))
theorem ok_law_merge (z : Zf fas fns tfs exs K mg base) (y0 : Yf xfs K) : DOk PP w (vbOf K tfs) mg base 1 (fAd K ("_law_merge", none)) ["edges", "one", "other"] 3 F_law_merge :=
  body_okD (d := d_law_merge) (N := N_law_merge) (k := 0) (bor := [0, 1, 2]) (g := g_law_merge) rfl (z.df 14 d_law_merge rfl) sc_law_merge (fun _ _ _ _ _ _ us hl => match us, hl with | [_, _, _], _ => rfl)
    fun cdv A outer s H E hc h =>
  (vss_cons (vs_setF sc_law_merge.nd rfl (Or.inl rfl) (x_srtS (z.free 26) (z.free 31) (x_add (x_ixU h.rm (ve_v 0) (ve_v 1)) (x_ixU h.rm (ve_v 0) (ve_v 2)))))
  (vss_cons (x_seU h.rm (x_lc 7 sc_law_merge.nd (own := [("goal", 6)]) rfl (vi_seq rfl (ve_v 3)) rfl gLen_n (fun _ _ _ _ _ => (vg_name sc_law_merge.nd rfl (Or.inl rfl))) (fun _ _ _ _ _ => (vts_one (VW.vt (vw_and (t_cmp (c_ne h.rm) (ve_v 6) (ve_v 1)) (vw_and1 (t_cmp (c_ne h.rm) (ve_v 6) (ve_v 2))))))) (fun _ _ _ _ _ => (ve_v 6))) (ve_v 0) (ve_v 1))
  (vss_cons (vs_set sc_law_merge.nd rfl (Or.inl rfl) x_newK)
  (vss_cons (vs_thaw 0 (vs_forK 0 h.ps (vg_name sc_law_merge.nd rfl (Or.inl rfl)) (vss_one (vs_if (t_cmp (c_ne h.rm) (ve_v 5) (ve_v 2)) (vss_one (x_seU h.rm (x_ixU h.rm (ve_v 0) (ve_v 5)) (ve_v 4) (ve_v 5))) vss_nil))))
  (vss_one (vs_ret (ve_v 4)))))))
theorem ok_law_reducible (z : Zf fas fns tfs exs K mg base) (y0 : Yf xfs K) : DOk PP w (vbOf K tfs) mg base 2 (fAd K ("_law_reducible", none)) ["rows", "first"] 2 F_law_reducible :=
  body_okD (d := d_law_reducible) (N := N_law_reducible) (k := 1) (bor := [0, 1]) (g := g_law_reducible) rfl (z.df 15 d_law_reducible rfl) sc_law_reducible (fun _ _ _ _ _ _ us hl => match us, hl with | [_, _], _ => rfl)
    fun cdv A outer s H E hc h =>
  (vss_cons (vs_setF sc_law_reducible.nd rfl (Or.inl rfl) (ve_callD (ok_law_reach z y0) (h.rm.mono (show 1 ≤ 1 by decide)) h.tk rfl (z.glo 28) (va_cons (ve_v 0) (va_cons (x_listRg (z.free 6) (z.free 3) (x_len (z.free 4) (va_cons (ve_v 0) va_nil))) (va_cons (ve_v 1) va_nil)))))
  (vss_cons (vs_set sc_law_reducible.nd rfl (Or.inr rfl) (ve_callD (ok_law_edges z y0) (h.rm.mono (show 1 ≤ 1 by decide)) h.tk rfl (z.glo 29) (va_cons (ve_v 0) (va_cons (ve_v 2) va_nil))))
  (vss_cons (vs_for h.ps rfl (vi_range1 (z.free 3) (va_cons (x_len (z.free 4) (va_cons (ve_v 2) va_nil)) va_nil)) (vg_name sc_law_reducible.nd rfl (Or.inl rfl)) (vss_cons (vs_setF sc_law_reducible.nd rfl (Or.inl rfl) ve_non)
  (vss_cons (vs_thaw 3 (vs_forK 3 h.ps (vg_name sc_law_reducible.nd rfl (Or.inr rfl)) (vss_one (vs_if (VW.vt (vw_and (t_cmp c_isU (ve_v 5) ve_non) (vw_and1 (t_cmp (c_ne h.rm) (ve_v 6) (ve_v 1))))) (vss_cons (x_setLcK (own := [("one", 8)]) 9 3 sc_law_reducible.nd rfl rfl gLen_n (fun _ _ _ _ _ => (vg_name sc_law_reducible.nd rfl (Or.inl rfl))) (fun _ _ _ _ _ => (vts_one (t_cmp (c_inU h.rm) (ve_v 6) (x_ixU h.rm (ve_v 3) (ve_v 8))))) (fun _ _ _ _ _ => (ve_v 8)))
  (vss_one (vs_if (t_cmp (c_eq h.rm) (x_len (z.free 4) (va_cons (ve_v 7) va_nil)) ve_int) (vss_one (vs_setF sc_law_reducible.nd rfl (Or.inl rfl) (ve_tup (va_cons (x_ixU h.rm (ve_v 7) ve_int) (va_cons (ve_v 6) va_nil))))) vss_nil))) vss_nil))))
  (vss_cons (vs_if (t_cmp c_isU (ve_v 5) ve_non) (vss_one vs_break) vss_nil)
  (vss_one (vs_set sc_law_reducible.nd rfl (Or.inr rfl) (ve_callD (ok_law_merge z y0) (h.rm.mono (show 1 ≤ 1 by decide)) h.tk rfl (z.glo 30) (va_cons (ve_v 3) (va_cons (x_ixU h.rm (ve_v 5) ve_int) (va_cons (x_ixU h.rm (ve_v 5) ve_int) va_nil))))))))))
  (vss_one (vs_ret (x_cmp (c_eq h.rm) (x_lenK (z.free 4) (va_cons (ve_v 3) va_nil)) ve_int))))))
theorem ok_law (z : Zf fas fns tfs exs K mg base) (y0 : Yf xfs K) : DOk PP w (vbOf K tfs) mg base 135 (fAd K ("law", none)) ["script"] 1 F_law :=
  body_okD (d := d_law) (N := N_law) (k := 134) (bor := [0]) (g := g_law) rfl (z.df 16 d_law rfl) sc_law (fun _ _ _ _ _ _ us hl => match us, hl with | [_], _ => rfl)
    fun cdv A outer s H E hc h =>
  (vss_cons (vs_set sc_law.nd rfl (Or.inl rfl) (ve_callD (ok_law_drawn z y0) (h.rm.mono (show 4 ≤ 134 by decide)) h.tk rfl (z.glo 2) (va_cons (ve_v 0) va_nil)))
  (vss_cons (vs_setF sc_law.nd rfl (Or.inl rfl) (x_pt 1 0))
  (vss_cons (vs_for h.ps rfl (vi_range1 (z.free 3) (va_cons ve_int va_nil)) (vg_name sc_law.nd rfl (Or.inl rfl)) (vss_cons (vs_setF sc_law.nd rfl (Or.inl rfl) (x_pt 1 1))
  (vss_cons (vs_if (t_cmp (c_eq h.rm) (ve_v 3) ve_int) (vss_one (vs_setF sc_law.nd rfl (Or.inl rfl) (ve_callD (ok_law_draw z y0) (h.rm.mono (show 1 ≤ 134 by decide)) h.tk rfl (z.glo 5) (va_cons (x_pt 1 2) (va_cons (x_len (z.free 4) (va_cons (ve_v 2) va_nil)) va_nil))))) vss_nil)
  (vss_cons (vs_setF sc_law.nd rfl (Or.inl rfl) (ve_callD (ok_outline z y0) (h.rm.mono (show 134 ≤ 134 by decide)) h.tk rfl (z.glo 7) (va_cons (x_listU (z.free 6) (va_cons (ve_v 2) va_nil)) (va_cons (ve_v 4) va_nil))))
  (vss_one (vs_if (VW.vt (vw_or (vt_not (t_tru (x_isi (isB_ok (exI z)) (z.free 9) (va_cons (ve_v 5) (va_cons (ve_bt (z.free 8) boot_tuple) va_nil))))) (vw_or1 (t_cmp (c_ne h.rm) (x_cmp (c_eq h.rm) (x_ixU h.rm (ve_v 5) ve_int) ve_str) (ve_callD (ok_law_reducible z y0) (h.rm.mono (show 2 ≤ 134 by decide)) h.tk rfl (z.glo 10) (va_cons (ve_v 2) (va_cons (ve_v 4) va_nil))))))) (vss_one (vs_ret ve_bl)) vss_nil))))))
  (vss_one (vs_ret ve_bl)))))
end
end Wk

namespace Gr
variable {E E' : Int → Int → Prop} {P P' Q C : Int → Prop} {h s x y u v w o a e : Int} {n : Nat}
/-! ### ways, strong components, the program's split -/
inductive Rch (E : Int → Int → Prop) (P : Int → Prop) (s : Int) : Int → Prop
  | refl : Rch E P s s
  | step {u v : Int} : Rch E P s u → E u v → P v → Rch E P s v
theorem Rch.trans (h1 : Rch E P s u) (h2 : Rch E P u v) : Rch E P s v := by
  induction h2 with
  | refl => exact h1
  | step _ e p ih => exact ih.step e p
theorem Rch.one (e : E u v) (p : P v) : Rch E P u v := Rch.refl.step e p
theorem Rch.mem (h : Rch E P s v) : v = s ∨ P v := by
  cases h with
  | refl => exact .inl rfl
  | step _ _ p => exact .inr p
theorem Rch.mono (hs : ∀ v, P v → Q v) (h : Rch E P s v) : Rch E Q s v := by
  induction h with
  | refl => exact .refl
  | step _ e p ih => exact ih.step e (hs _ p)
theorem Rch.conv (hE : ∀ u v, P u → P v → u ≠ v → E u v → E' u v) (hs : P s) (h : Rch E P s v) : Rch E' P s v := by
  induction h with
  | refl => exact .refl
  | @step u v r e p ih =>
    by_cases z : u = v
    · rw [← z]; exact ih
    · exact ih.step (hE u v (r.mem.elim (fun q => q ▸ hs) id) p z e) p
def Scc (E : Int → Int → Prop) (P C : Int → Prop) : Prop := ∃ x, P x ∧ ∀ v, C v ↔ P v ∧ Rch E P x v ∧ Rch E P v x
def Ent (E : Int → Int → Prop) (P C : Int → Prop) (v : Int) : Prop := C v ∧ ∃ u, P u ∧ ¬ C u ∧ E u v
def St (E : Int → Int → Prop) : Nat → (Int → Prop) → Int → Prop
  | 0, _, _ => True
  | n + 1, P, h => ∀ C, Scc E (fun v => P v ∧ v ≠ h) C → ∃ e, C e ∧ (∀ v, Ent E P C v → v = e) ∧ St E n C e
def Rooted (E : Int → Int → Prop) (P : Int → Prop) (h : Int) : Prop := P h ∧ ∀ v, P v → Rch E P h v
def Few (P : Int → Prop) (n : Nat) : Prop := ∃ l : List Int, l.length ≤ n ∧ ∀ v, P v → v ∈ l
theorem Scc.sub (S : Scc E P C) (h : C v) : P v := by
  obtain ⟨x, _, k⟩ := S
  exact ((k v).mp h).1
theorem Scc.rep (S : Scc E P C) (h : C y) : P y ∧ ∀ v, C v ↔ P v ∧ Rch E P y v ∧ Rch E P v y := by
  obtain ⟨x, px, k⟩ := S
  obtain ⟨p, r1, r2⟩ := (k y).mp h
  refine ⟨p, fun v => ⟨fun q => ?_, fun q => ?_⟩⟩
  · obtain ⟨a, b, d⟩ := (k v).mp q
    exact ⟨a, r2.trans b, d.trans r1⟩
  · exact (k v).mpr ⟨q.1, r1.trans q.2.1, q.2.2.trans r2⟩
theorem Scc.self (px : P x) : Scc E P (fun v => P v ∧ Rch E P x v ∧ Rch E P v x) := ⟨x, px, fun _ => Iff.rfl⟩
theorem Scc.ne (S : Scc E P C) : ∃ x, C x := by
  obtain ⟨x, px, k⟩ := S
  exact ⟨x, (k x).mpr ⟨px, .refl, .refl⟩⟩
theorem Scc.way (S : Scc E P C) (hu : C u) (hv : C v) : Rch E C u v := by
  obtain ⟨_, k⟩ := S.rep hu
  have key : ∀ w, Rch E P u w → Rch E P w u → Rch E C u w := by
    intro w r
    induction r with
    | refl => exact fun _ => .refl
    | @step w' w r' e p ih =>
      intro back
      have b' : Rch E P w' u := (Rch.one e p).trans back
      exact (ih b').step e ((k w).mpr ⟨p, r'.step e p, back⟩)
  obtain ⟨_, r1, r2⟩ := (k v).mp hv
  exact key v r1 r2
theorem Scc.rooted (S : Scc E P C) (he : C e) : Rooted E C e := ⟨he, fun v hv => S.way he hv⟩
theorem Few.less (f : Few P (n + 1)) (ph : P h) (hs : ∀ v, C v → P v ∧ v ≠ h) : Few C n := by
  obtain ⟨l, hl, k⟩ := f
  refine ⟨l.erase h, ?_, fun v hv => ?_⟩
  · rw [List.length_erase_of_mem (k h ph)]; omega
  · obtain ⟨p, ne⟩ := hs v hv
    exact (List.mem_erase_of_ne ne).mpr (k v p)
theorem St.one (hC : ∀ v, C v → v = e) : St E n C e := by
  cases n with
  | zero => trivial
  | succ n =>
    intro C' S
    obtain ⟨x, ⟨cx, ne⟩, _⟩ := S
    exact absurd (hC x cx) ne
theorem cross (ph : P h) (nh : ¬ C h) (r : Rch E P h x) (cx : C x) : ∃ u v, P u ∧ ¬ C u ∧ C v ∧ E u v := by
  induction r with
  | refl => exact absurd cx nh
  | @step u v r' e p ih =>
    by_cases z : C u
    · exact ih z
    · exact ⟨u, v, r'.mem.elim (fun q => q ▸ ph) id, z, cx, e⟩
theorem Scc.conv (hE : ∀ u v, P u → P v → u ≠ v → (E u v ↔ E' u v)) (S : Scc E P C) : Scc E' P C := by
  obtain ⟨x, px, k⟩ := S
  have f1 : ∀ a b, P a → Rch E P a b → Rch E' P a b := fun a b pa r => r.conv (fun u v p q ne e => (hE u v p q ne).mp e) pa
  have f2 : ∀ a b, P a → Rch E' P a b → Rch E P a b := fun a b pa r => r.conv (fun u v p q ne e => (hE u v p q ne).mpr e) pa
  exact ⟨x, px, fun v => (k v).trans ⟨fun q => ⟨q.1, f1 x v px q.2.1, f1 v x q.1 q.2.2⟩, fun q => ⟨q.1, f2 x v px q.2.1, f2 v x q.1 q.2.2⟩⟩⟩
theorem St.conv : ∀ {n : Nat} {P : Int → Prop} {h : Int}, (∀ u v, P u → P v → u ≠ v → (E u v ↔ E' u v)) → St E n P h → St E' n P h
  | 0, _, _, _, _ => trivial
  | n + 1, P, h, hE, H => fun C S => by
    have S0 : Scc E (fun v => P v ∧ v ≠ h) C := S.conv fun u v p q ne => (hE u v p.1 q.1 ne).symm
    obtain ⟨e, ce, hv, ih⟩ := H C S0
    refine ⟨e, ce, fun v q => ?_, St.conv (fun u v p q ne => hE u v (S0.sub p).1 (S0.sub q).1 ne) ih⟩
    obtain ⟨cv, u, pu, nu, eu⟩ := q
    exact hv v ⟨cv, u, pu, nu, (hE u v pu (S0.sub cv).1 fun z => nu (z ▸ cv)).mpr eu⟩
/-! ### merging a row into its only predecessor -/
structure Mrg (E E' : Int → Int → Prop) (P : Int → Prop) (o a : Int) : Prop where
  po : P o
  pa : P a
  ne : a ≠ o
  ao : E a o
  un : ∀ u, P u → E u o → u = a ∨ u = o
  eq : ∀ u v, P u → P v → u ≠ o → v ≠ o → u ≠ v → (E' u v ↔ E u v ∨ (u = a ∧ E o v))
theorem merge : ∀ {n : Nat} {P : Int → Prop} {h : Int}, Few P n → Rooted E P h → Mrg E E' P o a → o ≠ h → (St E n P h ↔ St E' n (fun v => P v ∧ v ≠ o) h)
  | 0, _, _, _, _, _, _ => Iff.rfl
  | n + 1, P, h, F, R, M, oh => by
    have ph := R.1
    have few : ∀ C, Scc E (fun v => P v ∧ v ≠ h) C → Few C n := fun C S => F.less ph fun v hv => S.sub hv
    have ent : ∀ C, Scc E (fun v => P v ∧ v ≠ h) C → ∃ v, Ent E P C v := fun C S => by
      obtain ⟨x, cx⟩ := S.ne
      obtain ⟨u, v, a1, a2, a3, a4⟩ := cross (C := C) ph (fun z => (S.sub z).2 rfl) (R.2 x (S.sub cx).1) cx
      exact ⟨v, a3, u, a1, a2, a4⟩
    by_cases ah : a = h
    · -- o's only predecessor is the head
      have key1 : ∀ u w, P u → u ≠ h → u ≠ o → Rch E (fun v => P v ∧ v ≠ h) u w → Rch E' (fun v => (P v ∧ v ≠ o) ∧ v ≠ h) u w ∧ w ≠ o ∧ P w ∧ w ≠ h := fun u w pu uh uo r => by
        induction r with
        | refl => exact ⟨.refl, uo, pu, uh⟩
        | @step w' w r' e q ih =>
          obtain ⟨i1, i2, i3, i4⟩ := ih
          have wo : w ≠ o := fun z => by
            subst z
            rcases M.un w' i3 e with z | z
            · exact i4 (z.trans ah)
            · exact i2 z
          by_cases z : w' = w
          · subst z; exact ⟨i1, i2, i3, i4⟩
          · exact ⟨i1.step ((M.eq w' w i3 q.1 i2 wo z).mpr (.inl e)) ⟨⟨q.1, wo⟩, q.2⟩, wo, q.1, q.2⟩
      have key2 : ∀ u w, P u → u ≠ h → u ≠ o → Rch E' (fun v => (P v ∧ v ≠ o) ∧ v ≠ h) u w → Rch E (fun v => P v ∧ v ≠ h) u w ∧ w ≠ o ∧ P w ∧ w ≠ h := fun u w pu uh uo r => by
        induction r with
        | refl => exact ⟨.refl, uo, pu, uh⟩
        | @step w' w r' e q ih =>
          obtain ⟨i1, i2, i3, i4⟩ := ih
          refine ⟨?_, q.1.2, q.1.1, q.2⟩
          by_cases z : w' = w
          · subst z; exact i1
          · rcases (M.eq w' w i3 q.1.1 i2 q.1.2 z).mp e with e | e
            · exact i1.step e ⟨q.1.1, q.2⟩
            · exact absurd (e.1.trans ah) i4
      have same : ∀ (C : Int → Prop) (x : Int), P x → x ≠ h → x ≠ o → ((∀ v, C v ↔ (P v ∧ v ≠ h) ∧ Rch E (fun v => P v ∧ v ≠ h) x v ∧ Rch E (fun v => P v ∧ v ≠ h) v x) ↔ ∀ v, C v ↔ ((P v ∧ v ≠ o) ∧ v ≠ h) ∧ Rch E' (fun v => (P v ∧ v ≠ o) ∧ v ≠ h) x v ∧ Rch E' (fun v => (P v ∧ v ≠ o) ∧ v ≠ h) v x) := fun C x px xh xo => by
        have one : ∀ v, ((P v ∧ v ≠ h) ∧ Rch E (fun v => P v ∧ v ≠ h) x v ∧ Rch E (fun v => P v ∧ v ≠ h) v x) ↔ (((P v ∧ v ≠ o) ∧ v ≠ h) ∧ Rch E' (fun v => (P v ∧ v ≠ o) ∧ v ≠ h) x v ∧ Rch E' (fun v => (P v ∧ v ≠ o) ∧ v ≠ h) v x) := fun v => by
          constructor
          · rintro ⟨⟨q1, q2⟩, r1, r2⟩
            obtain ⟨i1, i2, _, _⟩ := key1 x v px xh xo r1
            exact ⟨⟨⟨q1, i2⟩, q2⟩, i1, (key1 v x q1 q2 i2 r2).1⟩
          · rintro ⟨⟨⟨q1, q3⟩, q2⟩, r1, r2⟩
            exact ⟨⟨q1, q2⟩, (key2 x v px xh xo r1).1, (key2 v x q1 q2 q3 r2).1⟩
        exact ⟨fun k v => (k v).trans (one v), fun k v => (k v).trans (one v).symm⟩
      have cong : ∀ (C : Int → Prop), (∀ v, C v → (P v ∧ v ≠ o) ∧ v ≠ h) → ∀ u v, C u → C v → u ≠ v → (E u v ↔ E' u v) := fun C sub u v cu cv ne => by
        obtain ⟨⟨p1, p2⟩, p3⟩ := sub u cu
        obtain ⟨⟨q1, q2⟩, _⟩ := sub v cv
        rw [M.eq u v p1 q1 p2 q2 ne]
        exact ⟨.inl, fun z => z.elim id fun z => absurd (z.1.trans ah) p3⟩
      constructor
      · intro H C S
        obtain ⟨x, ⟨⟨px, xo⟩, xh⟩, k⟩ := S
        have k0 := (same C x px xh xo).mpr k
        obtain ⟨e, ce, hv, st⟩ := H C ⟨x, ⟨px, xh⟩, k0⟩
        have sub : ∀ v, C v → (P v ∧ v ≠ o) ∧ v ≠ h := fun v q => ((k v).mp q).1
        refine ⟨e, ce, fun v q => ?_, st.conv (cong C sub)⟩
        obtain ⟨cv, u, ⟨pu, uo⟩, nu, eu⟩ := q
        rcases (M.eq u v pu (sub v cv).1.1 uo (sub v cv).1.2 fun z => nu (z ▸ cv)).mp eu with z | z
        · exact hv v ⟨cv, u, pu, nu, z⟩
        · exact hv v ⟨cv, o, M.po, fun q => (sub o q).1.2 rfl, z.2⟩
      · intro H C S
        obtain ⟨x, ⟨px, xh⟩, k⟩ := id S
        by_cases xo : x = o
        · subst xo
          have all : ∀ v, C v → v = x := fun v cv => by
            obtain ⟨⟨q1, q2⟩, _, r2⟩ := (k v).mp cv
            by_cases z : v = x
            · exact z
            · exact absurd rfl (key1 v x q1 q2 z r2).2.1
          exact ⟨x, (k x).mpr ⟨⟨px, xh⟩, .refl, .refl⟩, fun v q => all v q.1, St.one all⟩
        · have k0 := (same C x px xh xo).mp k
          have sub : ∀ v, C v → (P v ∧ v ≠ o) ∧ v ≠ h := fun v q => ((k0 v).mp q).1
          obtain ⟨e, ce, hv, st⟩ := H C ⟨x, ⟨⟨px, xo⟩, xh⟩, k0⟩
          refine ⟨e, ce, fun v q => ?_, st.conv fun u v cu cv ne => (cong C sub u v cu cv ne).symm⟩
          obtain ⟨cv, u, pu, nu, eu⟩ := q
          by_cases uo : u = o
          · subst uo
            exact hv v ⟨cv, a, ⟨M.pa, M.ne⟩, fun z => (sub a z).2 ah, (M.eq a v M.pa (sub v cv).1.1 M.ne (sub v cv).1.2 fun z => (sub v cv).2 (z ▸ ah)).mpr (.inr ⟨rfl, eu⟩)⟩
          · exact hv v ⟨cv, u, ⟨pu, uo⟩, nu, (M.eq u v pu (sub v cv).1.1 uo (sub v cv).1.2 fun z => nu (z ▸ cv)).mpr (.inl eu)⟩
    · -- its only predecessor is not the head
      have qa : P a ∧ a ≠ h := ⟨M.pa, ah⟩
      have qo : P o ∧ o ≠ h := ⟨M.po, oh⟩
      have key1 : ∀ u w, P u → u ≠ h → u ≠ o → Rch E (fun v => P v ∧ v ≠ h) u w → (w ≠ o → Rch E' (fun v => (P v ∧ v ≠ o) ∧ v ≠ h) u w) ∧ (w = o → Rch E' (fun v => (P v ∧ v ≠ o) ∧ v ≠ h) u a) ∧ P w ∧ w ≠ h := fun u w pu uh uo r => by
        induction r with
        | refl => exact ⟨fun _ => .refl, fun z => absurd z uo, pu, uh⟩
        | @step w' w r' e q ih =>
          obtain ⟨i1, i2, i3, i4⟩ := ih
          refine ⟨fun wo => ?_, fun wo => ?_, q.1, q.2⟩
          · by_cases z : w' = o
            · have r := i2 z
              by_cases z2 : a = w
              · rw [← z2]; exact r
              · exact r.step ((M.eq a w M.pa q.1 M.ne wo z2).mpr (.inr ⟨rfl, z ▸ e⟩)) ⟨⟨q.1, wo⟩, q.2⟩
            · by_cases z2 : w' = w
              · subst z2; exact i1 z
              · exact (i1 z).step ((M.eq w' w i3 q.1 z wo z2).mpr (.inl e)) ⟨⟨q.1, wo⟩, q.2⟩
          · subst wo
            rcases M.un w' i3 e with z | z
            · rw [← z]; exact i1 (z ▸ M.ne)
            · exact i2 z
      have key2 : ∀ u w, P u → u ≠ h → u ≠ o → Rch E' (fun v => (P v ∧ v ≠ o) ∧ v ≠ h) u w → Rch E (fun v => P v ∧ v ≠ h) u w ∧ w ≠ o ∧ P w ∧ w ≠ h := fun u w pu uh uo r => by
        induction r with
        | refl => exact ⟨.refl, uo, pu, uh⟩
        | @step w' w r' e q ih =>
          obtain ⟨i1, i2, i3, i4⟩ := ih
          refine ⟨?_, q.1.2, q.1.1, q.2⟩
          by_cases z : w' = w
          · subst z; exact i1
          · rcases (M.eq w' w i3 q.1.1 i2 q.1.2 z).mp e with e | ⟨e1, e2⟩
            · exact i1.step e ⟨q.1.1, q.2⟩
            · rw [e1] at i1
              exact (i1.step M.ao qo).step e2 ⟨q.1.1, q.2⟩
      have one : ∀ x, P x → x ≠ h → x ≠ o → ∀ v, (((P v ∧ v ≠ o) ∧ v ≠ h) ∧ Rch E' (fun v => (P v ∧ v ≠ o) ∧ v ≠ h) x v ∧ Rch E' (fun v => (P v ∧ v ≠ o) ∧ v ≠ h) v x) ↔ ((P v ∧ v ≠ h) ∧ Rch E (fun v => P v ∧ v ≠ h) x v ∧ Rch E (fun v => P v ∧ v ≠ h) v x) ∧ v ≠ o := fun x px xh xo v => by
        constructor
        · rintro ⟨⟨⟨q1, q3⟩, q2⟩, r1, r2⟩
          exact ⟨⟨⟨q1, q2⟩, (key2 x v px xh xo r1).1, (key2 v x q1 q2 q3 r2).1⟩, q3⟩
        · rintro ⟨⟨⟨q1, q2⟩, r1, r2⟩, q3⟩
          exact ⟨⟨⟨q1, q3⟩, q2⟩, (key1 x v px xh xo r1).1 q3, (key1 v x q1 q2 q3 r2).1 xo⟩
      -- o is in with a
      have oa : ∀ C, Scc E (fun v => P v ∧ v ≠ h) C → ∀ x, C x → x ≠ o → C o → C a := fun C S x cx xo co => by
        obtain ⟨⟨px, xh⟩, k⟩ := S.rep cx
        obtain ⟨_, r1, r2⟩ := (k o).mp co
        have r3 := (key2 x a px xh xo ((key1 x o px xh xo r1).2.1 rfl)).1
        exact (k a).mpr ⟨qa, r3, (Rch.one M.ao qo).trans r2⟩
      -- a in, and a way from o: o is in
      have ao : ∀ C, Scc E (fun v => P v ∧ v ≠ h) C → C a → ∀ v, C v → E o v → C o := fun C S ca v cv e => by
        obtain ⟨_, k⟩ := S.rep ca
        obtain ⟨qv, r1, r2⟩ := (k v).mp cv
        exact (k o).mpr ⟨qo, Rch.one M.ao qo, (Rch.one e qv).trans r2⟩
      have ent1 : ∀ C, Scc E (fun v => P v ∧ v ≠ h) C → (∃ x, C x ∧ x ≠ o) → ∀ v, Ent E P C v ∨ Ent E' (fun v => P v ∧ v ≠ o) (fun v => C v ∧ v ≠ o) v → Ent E P C v ∧ Ent E' (fun v => P v ∧ v ≠ o) (fun v => C v ∧ v ≠ o) v := fun C S ⟨x, cx, xo⟩ v q => by
        rcases q with ⟨cv, u, pu, nu, eu⟩ | ⟨⟨cv, vo⟩, u, ⟨pu, uo⟩, nu, eu⟩
        · refine ⟨⟨cv, u, pu, nu, eu⟩, ?_⟩
          have vo : v ≠ o := fun z => by
            subst z
            rcases M.un u pu eu with z | z
            · exact nu (z ▸ oa C S x cx xo cv)
            · exact nu (z ▸ cv)
          refine ⟨⟨cv, vo⟩, ?_⟩
          by_cases uo : u = o
          · subst uo
            have na : ¬ C a := fun z => nu (ao C S z v cv eu)
            exact ⟨a, ⟨M.pa, M.ne⟩, fun z => na z.1, (M.eq a v M.pa (S.sub cv).1 M.ne vo fun z => na (z ▸ cv)).mpr (.inr ⟨rfl, eu⟩)⟩
          · exact ⟨u, ⟨pu, uo⟩, fun z => nu z.1, (M.eq u v pu (S.sub cv).1 uo vo fun z => nu (z ▸ cv)).mpr (.inl eu)⟩
        · refine ⟨⟨cv, ?_⟩, ⟨⟨cv, vo⟩, u, ⟨pu, uo⟩, nu, eu⟩⟩
          have nu' : ¬ C u := fun z => nu ⟨z, uo⟩
          rcases (M.eq u v pu (S.sub cv).1 uo vo fun z => nu' (z ▸ cv)).mp eu with e | ⟨e1, e2⟩
          · exact ⟨u, pu, nu', e⟩
          · exact ⟨o, M.po, fun z => nu' (e1 ▸ oa C S x cx xo z), e2⟩
      have sub : ∀ C, Scc E (fun v => P v ∧ v ≠ h) C → (∃ x, C x ∧ x ≠ o) → ∀ e, C e → e ≠ o → (St E n C e ↔ St E' n (fun v => C v ∧ v ≠ o) e) := fun C S ⟨x, cx, xo⟩ e ce eo => by
        by_cases co : C o
        · have M2 : Mrg E E' C o a := ⟨co, oa C S x cx xo co, M.ne, M.ao, fun u cu => M.un u (S.sub cu).1, fun u v cu cv => M.eq u v (S.sub cu).1 (S.sub cv).1⟩
          exact merge (few C S) (S.rooted ce) M2 (Ne.symm eo)
        · have eC : (fun v => C v ∧ v ≠ o) = C := funext fun v => propext ⟨fun q => q.1, fun q => ⟨q, fun z => co (z ▸ q)⟩⟩
          rw [eC]
          have cong : ∀ u v, C u → C v → u ≠ v → (E u v ↔ E' u v) := fun u v cu cv ne => by
            rw [M.eq u v (S.sub cu).1 (S.sub cv).1 (fun z => co (z ▸ cu)) (fun z => co (z ▸ cv)) ne]
            exact ⟨.inl, fun z => z.elim id fun z => absurd (ao C S (z.1 ▸ cu) v cv z.2) co⟩
          exact ⟨St.conv cong, St.conv fun u v p q ne => (cong u v p q ne).symm⟩
      constructor
      · intro H C' S'
        obtain ⟨x, ⟨⟨px, xo⟩, xh⟩, k⟩ := S'
        let C : Int → Prop := fun v => (P v ∧ v ≠ h) ∧ Rch E (fun v => P v ∧ v ≠ h) x v ∧ Rch E (fun v => P v ∧ v ≠ h) v x
        have S : Scc E (fun v => P v ∧ v ≠ h) C := Scc.self (P := fun v => P v ∧ v ≠ h) ⟨px, xh⟩
        have cx : C x := ⟨⟨px, xh⟩, .refl, .refl⟩
        have eC : C' = fun v => C v ∧ v ≠ o := funext fun v => propext ((k v).trans (one x px xh xo v))
        obtain ⟨e, ce, hv, st⟩ := H C S
        obtain ⟨v0, en⟩ := ent C S
        obtain ⟨en1, en2⟩ := ent1 C S ⟨x, cx, xo⟩ v0 (.inl en)
        have e0 := hv v0 en1
        have eo : e ≠ o := e0 ▸ en2.1.2
        rw [eC]
        exact ⟨e, ⟨ce, eo⟩, fun v q => hv v (ent1 C S ⟨x, cx, xo⟩ v (.inr q)).1, (sub C S ⟨x, cx, xo⟩ e ce eo).mp st⟩
      · intro H C S
        by_cases hx : ∃ x, C x ∧ x ≠ o
        · obtain ⟨x, cx, xo⟩ := id hx
          obtain ⟨⟨px, xh⟩, k⟩ := S.rep cx
          have S' : Scc E' (fun v => (P v ∧ v ≠ o) ∧ v ≠ h) (fun v => C v ∧ v ≠ o) := ⟨x, ⟨⟨px, xo⟩, xh⟩, fun v => (and_congr (k v) Iff.rfl).trans (one x px xh xo v).symm⟩
          obtain ⟨e, ⟨ce, eo⟩, hv, st⟩ := H _ S'
          exact ⟨e, ce, fun v q => hv v (ent1 C S hx v (.inl q)).2, (sub C S hx e ce eo).mpr st⟩
        · have all : ∀ v, C v → v = o := fun v cv => Classical.byContradiction fun z => hx ⟨v, cv, z⟩
          obtain ⟨y, cy⟩ := S.ne
          exact ⟨o, all y cy ▸ cy, fun v q => all v q.1, St.one all⟩
theorem Mrg.rooted (R : Rooted E P h) (M : Mrg E E' P o a) (oh : o ≠ h) : Rooted E' (fun v => P v ∧ v ≠ o) h := by
  refine ⟨⟨R.1, Ne.symm oh⟩, fun v pv => ?_⟩
  have key : ∀ w, Rch E P h w → P w ∧ (w ≠ o → Rch E' (fun v => P v ∧ v ≠ o) h w) ∧ (w = o → Rch E' (fun v => P v ∧ v ≠ o) h a) := by
    intro w r
    induction r with
    | refl => exact ⟨R.1, fun _ => .refl, fun z => absurd z.symm oh⟩
    | @step w' w r' e q ih =>
      obtain ⟨i0, i1, i2⟩ := ih
      refine ⟨q, fun wo => ?_, fun wo => ?_⟩
      · by_cases z : w' = o
        · have r := i2 z
          by_cases z2 : a = w
          · rw [← z2]; exact r
          · exact r.step ((M.eq a w M.pa q M.ne wo z2).mpr (.inr ⟨rfl, z ▸ e⟩)) ⟨q, wo⟩
        · by_cases z2 : w' = w
          · subst z2; exact i1 z
          · exact (i1 z).step ((M.eq w' w i0 q z wo z2).mpr (.inl e)) ⟨q, wo⟩
      · subst wo
        rcases M.un w' i0 e with z | z
        · rw [← z]; exact i1 (z ▸ M.ne)
        · exact i2 z
  exact (key v (R.2 v pv.1)).2.1 pv.2
end Gr

namespace Gr
open Classical
variable {E E' : Int → Int → Prop} {P P' Q C : Int → Prop} {h s x y u v w o a e : Int} {n : Nat}
theorem filter_lt {p q : Int → Bool} : ∀ {l : List Int}, (∀ v, p v = true → q v = true) → x ∈ l → q x = true → p x = false → (l.filter p).length < (l.filter q).length
  | [], _, h, _, _ => by cases h
  | y :: l, hs, hx, h1, h2 => by
    have le : ∀ m : List Int, (m.filter p).length ≤ (m.filter q).length := by
      intro m
      induction m with
      | nil => exact Nat.le_refl 0
      | cons z m ih =>
        cases e1 : p z with
        | true => simp [e1, hs z e1, ih]
        | false => cases e2 : q z <;> simp [e1, e2] <;> omega
    rcases List.mem_cons.mp hx with z | z
    · subst z
      have := le l
      simp [h1, h2]; omega
    · have ih := filter_lt (l := l) hs z h1 h2
      cases e1 : p y with
      | true => simp [e1, hs y e1, ih]
      | false => cases e2 : q y <;> simp [e1, e2] <;> omega
/-- a strong component that no row outside of it leads into -/
theorem source : ∀ (m : Nat) (l : List Int) (x : Int), (∀ v, Q v → v ∈ l) → Q x → (l.filter fun u => decide (Q u ∧ Rch E Q u x)).length ≤ m → ∃ C, Scc E Q C ∧ ∀ u v, Q u → C v → E u v → C u
  | 0, l, x, hl, qx, hm => by
    have : x ∈ l.filter fun u => decide (Q u ∧ Rch E Q u x) := List.mem_filter.mpr ⟨hl x qx, decide_eq_true ⟨qx, .refl⟩⟩
    have := List.length_pos_of_mem this
    omega
  | m + 1, l, x, hl, qx, hm => by
    by_cases hc : ∀ u v, Q u → (Q v ∧ Rch E Q x v ∧ Rch E Q v x) → E u v → (Q u ∧ Rch E Q x u ∧ Rch E Q u x)
    · exact ⟨_, Scc.self qx, hc⟩
    · obtain ⟨u, hc⟩ := not_forall.mp hc
      obtain ⟨v, hc⟩ := not_forall.mp hc
      have qu : Q u := byContradiction fun z => hc fun q => absurd q z
      have cv : Q v ∧ Rch E Q x v ∧ Rch E Q v x := byContradiction fun z => hc fun _ q => absurd q z
      have ev : E u v := byContradiction fun z => hc fun _ _ q => absurd q z
      have nu : ¬ (Q u ∧ Rch E Q x u ∧ Rch E Q u x) := fun z => hc fun _ _ _ => z
      have ux : Rch E Q u x := (Rch.one ev cv.1).trans cv.2.2
      have nx : ¬ Rch E Q x u := fun z => nu ⟨qu, z, ux⟩
      refine source m l u hl qu ?_
      have lt := filter_lt (p := fun w => decide (Q w ∧ Rch E Q w u)) (q := fun w => decide (Q w ∧ Rch E Q w x)) (l := l) (x := x) (fun w hw => by
        have hw := of_decide_eq_true hw
        exact decide_eq_true ⟨hw.1, hw.2.trans ux⟩) (hl x qx) (decide_eq_true ⟨qx, .refl⟩) (decide_eq_false fun z => nx z.2)
      omega
/-- nothing can be merged: there is but one row -/
theorem stuck : ∀ {n : Nat} {P : Int → Prop} {h : Int}, Few P n → Rooted E P h → St E n P h → (∃ v, P v ∧ v ≠ h) → ∃ o a, P o ∧ o ≠ h ∧ P a ∧ a ≠ o ∧ E a o ∧ ∀ u, P u → E u o → u = a ∨ u = o
  | 0, P, h, F, R, _, _ => by
    obtain ⟨l, hl, k⟩ := F
    have := k h R.1
    have := List.length_pos_of_mem this
    omega
  | n + 1, P, h, F, R, H, hx => by
    obtain ⟨x, px, xh⟩ := hx
    obtain ⟨l, hl, k⟩ := id F
    obtain ⟨C, S, cl⟩ := source (E := E) (Q := fun v => P v ∧ v ≠ h) _ l x (fun v q => k v q.1) ⟨px, xh⟩ (Nat.le_refl _)
    obtain ⟨e, ce, hv, st⟩ := H C S
    by_cases hw : ∃ w, C w ∧ w ≠ e
    · obtain ⟨o, a, h1, h2, h3, h4, h5, h6⟩ := stuck (F.less R.1 fun v hv => S.sub hv) (S.rooted ce) st hw
      refine ⟨o, a, (S.sub h1).1, (S.sub h1).2, (S.sub h3).1, h4, h5, fun u pu eu => ?_⟩
      by_cases cu : C u
      · exact h6 u cu eu
      · exact absurd (hv o ⟨h1, u, pu, cu, eu⟩) h2
    · have all : ∀ v, C v → v = e := fun v cv => byContradiction fun z => hw ⟨v, cv, z⟩
      obtain ⟨pe, eh⟩ := S.sub ce
      have un : ∀ u, P u → E u e → u = h ∨ u = e := fun u pu eu => by
        by_cases uh : u = h
        · exact .inl uh
        · exact .inr (all u (cl u e ⟨pu, uh⟩ ce eu))
      have last : ∀ w, Rch E P h w → w = e → E h e := by
        intro w r
        induction r with
        | refl => exact fun z => absurd z.symm eh
        | @step w' w r' ee q ih =>
          intro z
          subst z
          have pw : P w' := r'.mem.elim (fun z => z ▸ R.1) id
          rcases un w' pw ee with z | z
          · rw [← z]; exact ee
          · exact ih z
      exact ⟨e, h, pe, eh, R.1, Ne.symm eh, last e (R.2 e pe) rfl, un⟩
end Gr

namespace Wk
open PySem PySem.Spec PyProof.Rows L2 He Vl Gr
/-! ### the rows -/
structure Rw where
  act : D
  cnt : Int
  nx : List Int
def rwD (r : Rw) : D := .tup [r.act, .int r.cnt, .tup (I r.nx)]
abbrev RL (rs : List Rw) : D := .lst (rs.map rwD)
def nxt (rs : List Rw) (v : Int) : List Int := ((rs[v.toNat]?).map (·.nx)).getD []
def Ed (rs : List Rw) (u v : Int) : Prop := v ∈ nxt rs u
def Vd (rs : List Rw) (v : Int) : Prop := 0 ≤ v ∧ v < rs.length
structure OkR (rs : List Rw) : Prop where
  nx : ∀ r ∈ rs, ∀ g ∈ r.nx, Vd rs g
  ar : ∀ r ∈ rs, r.nx.length ≤ 100
  few : rs.length ≤ 120
theorem row_at {rs : List Rw} {v : Int} (h : Vd rs v) : ∃ r ∈ rs, L2.atI (rs.map rwD) v = some (rwD r) ∧ nxt rs v = r.nx := by
  have hl : v.toNat < rs.length := by have := h.1; have := h.2; omega
  obtain ⟨n, rfl⟩ := Int.eq_ofNat_of_zero_le h.1
  refine ⟨rs[n]'(by simpa using hl), List.getElem_mem .., ?_, ?_⟩
  · exact L2.atI_nat (by rw [List.getElem?_map, List.getElem?_eq_getElem (by simpa using hl)]; rfl)
  · unfold nxt
    simp at hl
    simp [hl]
theorem nx_ok {rs : List Rw} (O : OkR rs) {v g : Int} (h : Vd rs v) (hg : g ∈ nxt rs v) : Vd rs g := by
  obtain ⟨r, hr, _, e⟩ := row_at h
  rw [e] at hg
  exact O.nx r hr g hg
theorem nodup_le : ∀ {l m : List Int}, l.Nodup → (∀ v ∈ l, v ∈ m) → l.length ≤ m.length
  | [], _, _, _ => Nat.zero_le _
  | x :: l, m, nd, h => by
    have nd := List.nodup_cons.mp nd
    have hx := h x List.mem_cons_self
    have ih := nodup_le (l := l) (m := m.erase x) nd.2 fun v hv => (List.mem_erase_of_ne fun z => nd.1 (by rw [← z]; exact hv)).mpr (h v (List.mem_cons_of_mem _ hv))
    rw [List.length_erase_of_mem hx] at ih
    have := List.length_pos_of_mem hx
    simp only [List.length_cons]
    omega
/-! ### spread -/
structure Sp (rs : List Rw) (cs : List Int) (s : Int) (k : Nat) (od : List Int) : Prop where
  nd : od.Nodup
  sub : ∀ v ∈ od, v = s ∨ v ∈ cs
  way : ∀ v ∈ od, Rch (Ed rs) (· ∈ cs) s v
  cl : ∀ (j : Nat) (u : Int), j < k → od[j]? = some u → ∀ g ∈ nxt rs u, g ∈ cs → g ∈ od
  st : s ∈ od
theorem Sp.len {rs : List Rw} {cs : List Int} {s : Int} {k : Nat} {od : List Int} (h : Sp rs cs s k od) : od.length ≤ cs.length + 1 :=
  nodup_le (m := s :: cs) h.nd fun v hv => (h.sub v hv).elim (fun z => by rw [z]; exact List.mem_cons_self) fun z => List.mem_cons_of_mem _ z
def addC (cs od gs : List Int) : List Int := gs.foldl (fun od g => if g ∈ cs ∧ g ∉ od then od ++ [g] else od) od
theorem addC_pre {cs : List Int} : ∀ {gs od : List Int}, ∃ m, addC cs od gs = od ++ m
  | [], od => ⟨[], by simp [addC]⟩
  | g :: gs, od => by
    by_cases z : g ∈ cs ∧ g ∉ od
    · obtain ⟨m, h⟩ := addC_pre (gs := gs) (od := od ++ [g])
      refine ⟨g :: m, ?_⟩
      show addC cs (if g ∈ cs ∧ g ∉ od then od ++ [g] else od) gs = _
      rw [if_pos z, h, List.append_assoc]; rfl
    · obtain ⟨m, h⟩ := addC_pre (gs := gs) (od := od)
      refine ⟨m, ?_⟩
      show addC cs (if g ∈ cs ∧ g ∉ od then od ++ [g] else od) gs = _
      rw [if_neg z, h]
theorem addC_mem {cs : List Int} : ∀ {gs od : List Int} {v : Int}, v ∈ addC cs od gs ↔ v ∈ od ∨ (v ∈ gs ∧ v ∈ cs)
  | [], od, v => by simp [addC]
  | g :: gs, od, v => by
    show v ∈ addC cs (if g ∈ cs ∧ g ∉ od then od ++ [g] else od) gs ↔ _
    rw [addC_mem]
    by_cases z : g ∈ cs ∧ g ∉ od
    · rw [if_pos z]
      simp only [List.mem_append, List.mem_cons, List.not_mem_nil, or_false]
      constructor
      · rintro ((h | h) | h)
        · exact .inl h
        · subst h; exact .inr ⟨.inl rfl, z.1⟩
        · exact .inr ⟨.inr h.1, h.2⟩
      · rintro (h | ⟨h | h, h2⟩)
        · exact .inl (.inl h)
        · exact .inl (.inr h)
        · exact .inr ⟨h, h2⟩
    · rw [if_neg z]
      simp only [List.mem_cons]
      constructor
      · rintro (h | h)
        · exact .inl h
        · exact .inr ⟨.inr h.1, h.2⟩
      · rintro (h | ⟨h | h, h2⟩)
        · exact .inl h
        · subst h
          exact .inl (Classical.byContradiction fun q => z ⟨h2, q⟩)
        · exact .inr ⟨h, h2⟩
theorem addC_nd {cs : List Int} : ∀ {gs od : List Int}, od.Nodup → (addC cs od gs).Nodup
  | [], od, h => h
  | g :: gs, od, h => by
    show (addC cs (if g ∈ cs ∧ g ∉ od then od ++ [g] else od) gs).Nodup
    refine addC_nd ?_
    split
    · rename_i z
      rw [List.nodup_append]
      exact ⟨h, by simp, fun a ha b hb e => by simp at hb; subst hb; subst e; exact z.2 ha⟩
    · exact h
theorem Sp.next {rs : List Rw} {cs : List Int} {s e : Int} {k : Nat} {od : List Int} (h : Sp rs cs s k od) (he : od[k]? = some e) : Sp rs cs s (k + 1) (addC cs od (nxt rs e)) := by
  have em := List.mem_of_getElem? he
  obtain ⟨m, hm⟩ := addC_pre (cs := cs) (gs := nxt rs e) (od := od)
  refine ⟨addC_nd h.nd, fun v hv => ?_, fun v hv => ?_, fun j u hj hu g hg hc => ?_, addC_mem.mpr (.inl h.st)⟩
  · rcases addC_mem.mp hv with z | z
    · exact h.sub v z
    · exact .inr z.2
  · rcases addC_mem.mp hv with z | z
    · exact h.way v z
    · exact (h.way e em).step z.1 z.2
  · rw [addC_mem]
    by_cases z : j < k
    · have hu' : od[j]? = some u := by
        rw [hm, List.getElem?_append_left (by have := (List.getElem?_eq_some_iff.mp he).1; omega)] at hu
        exact hu
      exact .inl (h.cl j u z hu' g hg hc)
    · have e1 : j = k := by omega
      subst e1
      rw [hm, List.getElem?_append_left (List.getElem?_eq_some_iff.mp he).1, he] at hu
      cases hu
      exact .inr ⟨hg, hc⟩
theorem Sp.done {rs : List Rw} {cs : List Int} {s : Int} {k : Nat} {od : List Int} (h : Sp rs cs s k od) (hk : od.length ≤ k) (v : Int) : v ∈ od ↔ Rch (Ed rs) (· ∈ cs) s v := by
  refine ⟨h.way v, fun r => ?_⟩
  induction r with
  | refl => exact h.st
  | @step u v r e p ih =>
    obtain ⟨j, hj, e2⟩ := List.getElem_of_mem ih
    exact h.cl j u (by omega) (by rw [List.getElem?_eq_getElem hj, e2]) v e p
section
variable {rs : List Rw} {cs : List Int} {s : Int}
/-- the inner loop: what a row leads to -/
theorem sp_add {t0 t2 x4 : Option T} (hb : cs.length ≤ 1000) : ∀ {gs od : List Int} {x5 : Option T}, od.length + gs.length ≤ 1000000 → ∃ y5, loopD (gN 5) s_spread_5 (I gs) [t0, some (.fr (.lst (I cs))), t2, some (.lst (I od)), x4, x5] = some (.nx [t0, some (.fr (.lst (I cs))), t2, some (.lst (I (addC cs od gs))), x4, y5])
  | [], od, x5, _ => ⟨x5, rfl⟩
  | g :: gs, od, x5, hl => by
    simp only [List.length_cons] at hl
    have i1 : ∀ {neg : Bool}, gInU neg (.int g) (.lst (I cs)) = some (.fr (.bl (if neg then !decide (g ∈ cs) else decide (g ∈ cs)))) := inU_I rfl
    have i2 : ∀ {neg : Bool}, gInU neg (.int g) (.lst (I od)) = some (.fr (.bl (if neg then !decide (g ∈ od) else decide (g ∈ od)))) := inU_I rfl
    have st : s_spread_5 [t0, some (.fr (.lst (I cs))), t2, some (.lst (I od)), x4, some (.fr (.int g))] = some (.nx [t0, some (.fr (.lst (I cs))), t2, some (.lst (I (if g ∈ cs ∧ g ∉ od then od ++ [g] else od))), x4, some (.fr (.int g))]) := by
      have hz : od.length < 16777216 := by omega
      by_cases c1 : g ∈ cs
      · by_cases c2 : g ∈ od
        · simp [s_spread_5, i1, i2, c1, c2]
        · simp [s_spread_5, i1, i2, c1, c2, hz]
          simp [I]
      · simp [s_spread_5, i1, i2, c1]
    obtain ⟨y5, ih⟩ := sp_add (t0 := t0) (t2 := t2) (x4 := x4) hb (gs := gs) (od := if g ∈ cs ∧ g ∉ od then od ++ [g] else od) (x5 := some (.fr (.int g))) (by
      split
      · simp; omega
      · omega)
    refine ⟨y5, ?_⟩
    show loopD (gN 5) s_spread_5 (D.int g :: I gs) _ = _
    unfold loopD
    simp [st]
    exact ih
theorem sp_loop (O : OkR rs) (hcs : ∀ v ∈ cs, Vd rs v) (hs : Vd rs s) (hb : cs.length ≤ 1000) : ∀ (n k : Nat) (od : List Int) (x5 : Option T), Sp rs cs s k od → k ≤ od.length → cs.length + 2 ≤ n + k →
    ∃ od' y5, loopW (bnd (vOp gLt (vV 4) (vCall gLen (vCons (vV 3) (vNil)))) asB) b_spread_3 n [some (.fr (RL rs)), some (.fr (.lst (I cs))), some (.fr (.int s)), some (.lst (I od)), some (.fr (.int k)), x5] = some (.nx [some (.fr (RL rs)), some (.fr (.lst (I cs))), some (.fr (.int s)), some (.lst (I od')), some (.fr (.int od'.length)), y5]) ∧ Sp rs cs s od'.length od'
  | 0, k, od, x5, S, hk, hn => by have := S.len; omega
  | n + 1, k, od, x5, S, hk, hn => by
    have t1 : (bnd (vOp gLt (vV 4) (vCall gLen (vCons (vV 3) (vNil)))) asB) [some (.fr (RL rs)), some (.fr (.lst (I cs))), some (.fr (.int s)), some (.lst (I od)), some (.fr (.int k)), x5] = some (.val (decide ((k : Int) < od.length)) [some (.fr (RL rs)), some (.fr (.lst (I cs))), some (.fr (.int s)), some (.lst (I od)), some (.fr (.int k)), x5]) := by
      simp
    cases q : od[k]? with
    | none =>
      have hl : od.length ≤ k := List.getElem?_eq_none_iff.mp q
      have he : k = od.length := by omega
      subst he
      refine ⟨od, x5, ?_, S⟩
      unfold loopW
      rw [t1, decide_eq_false (by omega)]
    | some e =>
      have hkl := (List.getElem?_eq_some_iff.mp q).1
      have ve : Vd rs e := (S.sub e (List.mem_of_getElem? q)).elim (fun z => z ▸ hs) (hcs e)
      obtain ⟨r, hr, h1, h2⟩ := row_at ve
      have a5 : L2.atI (I od) (k : Int) = some (.int e) := L2.atI_nat (by rw [I_get, q]; rfl)
      have a6 : L2.atI [r.act, .int r.cnt, .tup (I r.nx)] 2 = some (.tup (I r.nx)) := L2.atI_nat (j := 2) (by rfl)
      have len := S.len
      have S' := S.next q
      rw [h2] at S'
      have len' := S'.len
      have ar := O.ar r hr
      obtain ⟨y5, lp⟩ := sp_add (t0 := some (.fr (RL rs))) (t2 := some (.fr (.int s))) (x4 := some (.fr (.int k))) hb (gs := r.nx) (od := od) (x5 := x5) (by omega)
      have s1 : s_spread_4 [some (.fr (RL rs)), some (.fr (.lst (I cs))), some (.fr (.int s)), some (.lst (I od)), some (.fr (.int k)), x5] = some (.nx [some (.fr (RL rs)), some (.fr (.lst (I cs))), some (.fr (.int s)), some (.lst (I (addC cs od r.nx))), some (.fr (.int k)), y5]) := by
        refine (for_val ?_).trans lp
        simp [RL, a5, h1, rwD, a6]
      have s2 : s_spread_7 [some (.fr (RL rs)), some (.fr (.lst (I cs))), some (.fr (.int s)), some (.lst (I (addC cs od r.nx))), some (.fr (.int k)), y5] = some (.nx [some (.fr (RL rs)), some (.fr (.lst (I cs))), some (.fr (.int s)), some (.lst (I (addC cs od r.nx))), some (.fr (.int ((k + 1 : Nat) : Int))), y5]) := by
        simp [s_spread_7]
      obtain ⟨m, hm⟩ := addC_pre (cs := cs) (gs := r.nx) (od := od)
      obtain ⟨od', y, ih, S2⟩ := sp_loop O hcs hs hb n (k + 1) (addC cs od r.nx) y5 S' (by rw [hm]; simp; omega) (by omega)
      refine ⟨od', y, ?_, S2⟩
      unfold loopW
      rw [t1, decide_eq_true (by omega)]
      simp only
      rw [show b_spread_3 = sSeq s_spread_4 s_spread_7 from rfl, seq_nx s1, s2]
      exact ih
theorem srtZ_nd {l : List Int} (h : l.Nodup) : (srtZ l).Nodup := (srtZ_perm (l := l)).nodup_iff.mpr h
theorem spread_F (O : OkR rs) (hcs : ∀ v ∈ cs, Vd rs v) (hs : Vd rs s) (hb : cs.length ≤ 1000) : ∃ l : List Int, F_spread [.fr (RL rs), .fr (.lst (I cs)), .fr (.int s)] = some (.ret (.lst (I l)) [.fr (RL rs), .fr (.lst (I cs)), .fr (.int s)]) ∧ l.Nodup ∧ ∀ v, v ∈ l ↔ Rch (Ed rs) (· ∈ cs) s v := by
  have S0 : Sp rs cs s 0 [s] := ⟨by simp, fun v hv => .inl (by simpa using hv), fun v hv => by simp at hv; rw [hv]; exact .refl, fun j u hj => by omega, by simp⟩
  obtain ⟨od, y5, lp, S⟩ := sp_loop O hcs hs hb 1000000 0 [s] none S0 (by simp) (by omega)
  refine ⟨srtZ od, body_ret (w := .nw (.lst (I (srtZ od)))) (ρ := [some (.fr (RL rs)), some (.fr (.lst (I cs))), some (.fr (.int s)), some (.lst (I od)), some (.fr (.int od.length)), y5]) rfl ?_ rfl rfl, srtZ_nd S.nd, fun v => (srtZ_perm (l := od)).mem_iff.trans (S.done (Nat.le_refl _) v)⟩
  show g_spread [some (.fr (RL rs)), some (.fr (.lst (I cs))), some (.fr (.int s)), none, none, none] = _
  have is : intsD (I od) = some od := by
    have : ∀ l : List Int, intsD (I l) = some l := fun l => by
      induction l with
      | nil => rfl
      | cons i r ih => show (intsD (I r)).map (i :: ·) = _; rw [ih]; rfl
    exact this od
  have lp' : s_spread_3 [some (.fr (RL rs)), some (.fr (.lst (I cs))), some (.fr (.int s)), some (.lst (I [s])), some (.fr (.int 0)), none] = _ := lp
  unfold g_spread
  rw [seq_nx (ρ' := [some (.fr (RL rs)), some (.fr (.lst (I cs))), some (.fr (.int s)), some (.lst (I [s])), none, none]) (by simp [I]), seq_nx (ρ' := [some (.fr (RL rs)), some (.fr (.lst (I cs))), some (.fr (.int s)), some (.lst (I [s])), some (.fr (.int 0)), none]) (by simp), seq_nx lp']
  simp [gSorted, is]
  rfl
end
end Wk

namespace Wk
open PySem PySem.Spec PyProof.Rows L2 He Vl Gr
/-! ### helpers -/
theorem gx_all {goOn : Bool} {vs : List Nat} {gt : FT} {ft : FG Bool} {fe : FE} {ρ : Vl.Env} {p : D → Bool} : ∀ {ds : List D}, (∀ d ∈ ds, ∃ ρ1 ρ2 ρ3, gt d ρ = some ρ1 ∧ ft ρ1 = some (.val true ρ2) ∧ fe ρ2 = some (.val (.fr (.bl (p d))) ρ3) ∧ wipeE ρ3 vs = ρ) → gxD goOn vs gt ft fe ds ρ = some (if goOn then ds.all p else ds.any p, ρ)
  | [], _ => by cases goOn <;> rfl
  | d :: ds, h => by
    obtain ⟨ρ1, ρ2, ρ3, h1, h2, h3, h4⟩ := h d List.mem_cons_self
    have ih := gx_all (goOn := goOn) (vs := vs) (gt := gt) (ft := ft) (fe := fe) (ρ := ρ) (p := p) (ds := ds) fun d hd => h d (List.mem_cons_of_mem _ hd)
    unfold gxD
    rw [h1]
    simp only [h2, h3, h4]
    rw [ih, List.all_cons, List.any_cons]
    cases goOn <;> cases p d <;> rfl
theorem gx_I {goOn : Bool} {vs : List Nat} {i n : Nat} {fi : FG (List D)} {fe : FE} {ρ ρ0 : Vl.Env} {p : Int → Bool} {xs : List Int} (hi : fi ρ = some (.val (I xs) ρ)) (hn : ρ.length ≤ n) (hw : wipeE ρ vs = ρ0)
    (h : ∀ x ∈ xs, ∃ ρ1 ρ3, gN i (.int x) ρ0 = some ρ1 ∧ fe ρ1 = some (.val (.fr (.bl (p x))) ρ3) ∧ wipeE ρ3 vs = ρ0) : vGx goOn n vs fi (gN i) (Vl.ret true) fe ρ = some (.val (.fr (.bl (if goOn then xs.all p else xs.any p))) ρ0) := by
  have h2 := gx_all (goOn := goOn) (vs := vs) (gt := gN i) (ft := Vl.ret true) (fe := fe) (ρ := ρ0) (p := fun d => match d with | .int x => p x | _ => false) (ds := I xs) fun d hd => by
    obtain ⟨x, hx, rfl⟩ := List.mem_map.mp hd
    obtain ⟨ρ1, ρ3, h1, h2, h3⟩ := h x hx
    exact ⟨ρ1, ρ1, ρ3, h1, rfl, h2, h3⟩
  unfold vGx bnd
  rw [hi]
  simp only [kGx, hn, if_true, hw, h2]
  have e1 : (I xs).all (fun d => match d with | .int x => p x | _ => false) = xs.all p := by simp [I, List.all_map]; rfl
  have e2 : (I xs).any (fun d => match d with | .int x => p x | _ => false) = xs.any p := by simp [I, List.any_map]; rfl
  rw [e1, e2]
theorem pD_new {k : L2.Key} {d : D} {kvs : List (L2.Key × D)} (h : k ∉ kvs.map (·.1)) : pD kvs k d = kvs ++ [(k, d)] := by
  have : (kvs.any fun kv => decide (kv.1 = k)) = false := by
    rw [List.any_eq_false]
    intro kv hkv
    simp only [decide_eq_true_eq]
    exact fun z => h (z ▸ List.mem_map_of_mem hkv)
  unfold pD
  rw [this]
  rfl
theorem compK_ev {vs : List Nat} {gt : FT} {ft : FG Bool} {fk fe : FE} {ρ : Vl.Env} {f : Int → D} : ∀ {l : List Int} {acc : List (L2.Key × D)}, (∀ a ∈ l, stepK vs gt ft fk fe (.int a) ρ = some (some (.inl a, f a), ρ)) → l.Nodup → (∀ a ∈ l, .inl a ∉ acc.map (·.1)) → acc.length + l.length ≤ 16777216 →
    compK vs gt ft fk fe (I l) acc ρ = some (acc ++ l.map (fun a => (.inl a, f a)), ρ)
  | [], acc, _, _, _, _ => by simp [compK, I]
  | a :: l, acc, h, nd, na, hl => by
    have nd' := List.nodup_cons.mp nd
    have h1 := h a List.mem_cons_self
    simp only [List.length_cons] at hl
    have hz : szL acc.length = true := by simp [szL]; omega
    have ih := compK_ev (vs := vs) (gt := gt) (ft := ft) (fk := fk) (fe := fe) (ρ := ρ) (f := f) (l := l) (acc := acc ++ [(.inl a, f a)]) (fun b hb => h b (List.mem_cons_of_mem _ hb)) nd'.2 (fun b hb => by
      simp only [List.map_append, List.mem_append, List.map_cons, List.map_nil, List.mem_singleton, not_or]
      exact ⟨na b (List.mem_cons_of_mem _ hb), fun z => nd'.1 (by injection z with z; exact z ▸ hb)⟩) (by simp; omega)
    show compK vs gt ft fk fe (.int a :: I l) acc ρ = _
    unfold compK
    rw [h1]
    simp only [hz, if_true]
    rw [pD_new (na a List.mem_cons_self), ih]
    simp
theorem gD_map {f : Int → D} {v : Int} : ∀ {l : List Int}, v ∈ l → gD (l.map fun a => ((.inl a : L2.Key), f a)) (.inl v) = some (f v)
  | [], h => by cases h
  | a :: l, h => by
    by_cases z : a = v
    · subst z; exact gD_pos rfl
    · rw [List.map_cons, gD_neg (by simpa using z)]
      exact gD_map ((List.mem_cons.mp h).resolve_left fun q => z q.symm)
theorem atI_head {a : Int} {l : List Int} : L2.atI (I (a :: l)) 0 = some (.int a) := L2.atI_nat (j := 0) (by rfl)
section
variable {rs : List Rw}
/-! ### components -/
abbrev PL (parts : List (List Int)) : List D := parts.map fun p => .lst (I p)
theorem low_loop {t0 t1 t3 x7 : Option T} {left : List Int} {R : Int → List Int} : ∀ {ds : List Int} {lo : Int} {x6 x8 : Option T}, (∀ v ∈ ds, v ∈ left) → lo ∈ left →
    ∃ lo' y6 y8, loopD (gN 6) s_components_7 (I ds) [t0, t1, some (.fr (.lst (I left))), t3, some (.fr (.dK (left.map fun a => (.inl a, .lst (I (R a)))))), some (.fr (.int lo)), x6, x7, x8] = some (.nx [t0, t1, some (.fr (.lst (I left))), t3, some (.fr (.dK (left.map fun a => (.inl a, .lst (I (R a)))))), some (.fr (.int lo')), y6, x7, y8]) ∧ lo' ∈ left
  | [], lo, x6, x8, _, hl => ⟨lo, x6, x8, rfl, hl⟩
  | v :: ds, lo, x6, x8, hd, hl => by
    have hv := hd v List.mem_cons_self
    let ρ0 : Vl.Env := [t0, t1, some (.fr (.lst (I left))), t3, some (.fr (.dK (left.map fun a => (.inl a, .lst (I (R a)))))), some (.fr (.int lo)), some (.fr (.int v)), x7, none]
    have g := gx_I (goOn := true) (vs := [8]) (i := 8) (n := 9) (fi := bnd (vV 2) asS) (fe := vOrV (vOp (gInU true) (vV 6) (vOp gIxU (vV 4) (vV 8))) (vOp (gInU false) (vV 8) (vOp gIxU (vV 4) (vV 6)))) (ρ := [t0, t1, some (.fr (.lst (I left))), t3, some (.fr (.dK (left.map fun a => (.inl a, .lst (I (R a)))))), some (.fr (.int lo)), some (.fr (.int v)), x7, x8]) (ρ0 := ρ0)
      (p := fun o => (!decide (v ∈ R o)) || decide (o ∈ R v)) (xs := left) (by simp) (by simp) rfl (fun o ho => by
        have d1 := gD_map (f := fun a => D.lst (I (R a))) ho
        have d2 := gD_map (f := fun a => D.lst (I (R a))) hv
        have i1 : ∀ {neg : Bool}, gInU neg (.int v) (.lst (I (R o))) = some (.fr (.bl (if neg then !decide (v ∈ R o) else decide (v ∈ R o)))) := inU_I rfl
        have i2 : ∀ {neg : Bool}, gInU neg (.int o) (.lst (I (R v))) = some (.fr (.bl (if neg then !decide (o ∈ R v) else decide (o ∈ R v)))) := inU_I rfl
        refine ⟨_, [t0, t1, some (.fr (.lst (I left))), t3, some (.fr (.dK (left.map fun a => (.inl a, .lst (I (R a)))))), some (.fr (.int lo)), some (.fr (.int v)), x7, some (.fr (.int o))], rfl, ?_, rfl⟩
        by_cases c : v ∈ R o
        · simp [ρ0, d1, d2, i1, i2, c]
        · simp [ρ0, d1, d2, i1, i2, c])
    show ∃ lo' y6 y8, loopD (gN 6) s_components_7 (.int v :: I ds) _ = _ ∧ _
    unfold loopD
    generalize hb : (left.all fun o => (!decide (v ∈ R o)) || decide (o ∈ R v)) = bb at g
    have st : s_components_7 [t0, t1, some (.fr (.lst (I left))), t3, some (.fr (.dK (left.map fun a => (.inl a, .lst (I (R a)))))), some (.fr (.int lo)), some (.fr (.int v)), x7, x8] = if bb = true then some (.brk [t0, t1, some (.fr (.lst (I left))), t3, some (.fr (.dK (left.map fun a => (.inl a, .lst (I (R a)))))), some (.fr (.int v)), some (.fr (.int v)), x7, none]) else some (.nx ρ0) := by
      unfold s_components_7
      generalize vGx true 9 [8] (bnd (vV 2) asS) (gN 8) (Vl.ret true) (vOrV (vOp (gInU true) (vV 6) (vOp gIxU (vV 4) (vV 8))) (vOp (gInU false) (vV 8) (vOp gIxU (vV 4) (vV 6)))) = G at g
      cases bb <;> simp [g, ρ0]
    have gn : gN 6 (.int v) [t0, t1, some (.fr (.lst (I left))), t3, some (.fr (.dK (left.map fun a => (.inl a, .lst (I (R a)))))), some (.fr (.int lo)), x6, x7, x8] = some [t0, t1, some (.fr (.lst (I left))), t3, some (.fr (.dK (left.map fun a => (.inl a, .lst (I (R a)))))), some (.fr (.int lo)), some (.fr (.int v)), x7, x8] := rfl
    rw [gn]
    simp only [st]
    cases bb with
    | true => exact ⟨v, _, _, rfl, hv⟩
    | false => exact low_loop (fun w hw => hd w (List.mem_cons_of_mem _ hw)) hl
end
end Wk

namespace Wk
open PySem PySem.Spec PyProof.Rows L2 He Vl Gr
theorem dc_I {vs : List Nat} {i n : Nat} {fi : FG (List D)} {fk fe : FE} {ρ ρ0 : Vl.Env} {f : Int → D} {l : List Int} (hi : fi ρ = some (.val (I l) ρ)) (hn : ρ.length ≤ n) (hw : wipeE ρ vs = ρ0) (nd : l.Nodup) (hl : l.length ≤ 1000000)
    (h : ∀ a ∈ l, stepK vs (gN i) (Vl.ret true) fk fe (.int a) ρ0 = some (some (.inl a, f a), ρ0)) : vDc n vs fi (gN i) (Vl.ret true) fk fe ρ = some (.val (.nw (.dK (l.map fun a => (.inl a, f a)))) ρ0) := by
  unfold vDc bnd
  rw [hi]
  simp only [hn, if_true, hw]
  rw [compK_ev (acc := []) h nd (fun a _ => by simp) (by simp; omega)]
  simp
section
variable {rs : List Rw} {cs : List Int}
def cE (rs : List Rw) (cs left : List Int) (parts : List (List Int)) (x4 x5 x6 x7 x8 : Option T) : Vl.Env := [some (.fr (RL rs)), some (.fr (.lst (I cs))), some (.fr (.lst (I left))), some (.lst (PL parts)), x4, x5, x6, x7, x8]
theorem c_round (O : OkR rs) {left : List Int} {parts : List (List Int)} (hl : ∀ v ∈ left, Vd rs v) (nd : left.Nodup) (hb : left.length ≤ 1000) (hp : parts.length ≤ 1000000) (hne : left ≠ []) {x4 x5 x6 x7 x8 : Option T} :
    ∃ lo part y4 y5 y6 y7 y8, b_components_3 (cE rs cs left parts x4 x5 x6 x7 x8) = some (.nx (cE rs cs (left.filter fun v => decide (v ∉ part)) (parts ++ [part]) y4 y5 y6 y7 y8)) ∧ lo ∈ left ∧ part.Nodup ∧ ∀ v, v ∈ part ↔ v ∈ left ∧ Rch (Ed rs) (· ∈ left) lo v ∧ Rch (Ed rs) (· ∈ left) v lo := by
  have sp : ∀ v ∈ left, ∃ l : List Int, F_spread [.fr (RL rs), .fr (.lst (I left)), .fr (.int v)] = some (.ret (.lst (I l)) [.fr (RL rs), .fr (.lst (I left)), .fr (.int v)]) ∧ l.Nodup ∧ ∀ w, w ∈ l ↔ Rch (Ed rs) (· ∈ left) v w := fun v hv => spread_F O hl (hl v hv) hb
  obtain ⟨R, hR⟩ : ∃ R : Int → List Int, ∀ v ∈ left, F_spread [.fr (RL rs), .fr (.lst (I left)), .fr (.int v)] = some (.ret (.lst (I (R v))) [.fr (RL rs), .fr (.lst (I left)), .fr (.int v)]) ∧ ∀ w, w ∈ R v ↔ Rch (Ed rs) (· ∈ left) v w := by
    refine ⟨fun v => if h : v ∈ left then Classical.choose (sp v h) else [], fun v hv => ?_⟩
    have q := Classical.choose_spec (sp v hv)
    simp only [hv, dif_pos]
    exact ⟨q.1, q.2.2⟩
  clear sp
  obtain ⟨a, l, hal⟩ := List.exists_cons_of_ne_nil hne
  have hd : L2.atI (I left) 0 = some (.int a) := by rw [hal]; exact atI_head
  have ha : a ∈ left := by rw [hal]; exact List.mem_cons_self
  clear hal
  have s4 : s_components_4 (cE rs cs left parts x4 x5 x6 x7 x8) = some (.nx (cE rs cs left parts (some (.fr (.dK (left.map fun a => (.inl a, .lst (I (R a))))))) x5 none x7 x8)) := by
    have q := dc_I (vs := [6]) (i := 6) (n := 9) (fi := bnd (vV 2) asS) (fk := vV 6) (fe := vCallG 3 F_spread (vCons (vV 0) (vCons (vV 2) (vCons (vV 6) (vNil))))) (ρ := cE rs cs left parts x4 x5 x6 x7 x8) (ρ0 := cE rs cs left parts x4 x5 none x7 x8) (f := fun a => .lst (I (R a))) (l := left) (by simp [cE]) (by simp [cE]) rfl nd (by omega) (fun v hv => by
      have h := (hR v hv).1
      simp [Vl.stepK, wipeE, cE, h, keyD])
    unfold s_components_4
    generalize vDc 9 [6] (bnd (vV 2) asS) (gN 6) (Vl.ret true) (vV 6) (vCallG 3 F_spread (vCons (vV 0) (vCons (vV 2) (vCons (vV 6) (vNil))))) = G at q
    simp [q]
    simp [cE]
  have s5 : (sSetF 5 (vOp gIxU (vV 2) (vC (.int 0)))) (cE rs cs left parts (some (.fr (.dK (left.map fun a => (.inl a, .lst (I (R a))))))) x5 none x7 x8) = some (.nx (cE rs cs left parts (some (.fr (.dK (left.map fun a => (.inl a, .lst (I (R a))))))) (some (.fr (.int a))) none x7 x8)) := by
    simp [cE, hd]
  obtain ⟨lo, y6, y8, lp, hlo⟩ := low_loop (t0 := some (.fr (RL rs))) (t1 := some (.fr (.lst (I cs)))) (t3 := some (.lst (PL parts))) (x7 := x7) (R := R) (left := left) (ds := left) (lo := a) (x6 := none) (x8 := x8) (fun v hv => hv) ha
  have s6 : (sFor (bnd (vV 2) asS) (gN 6) (s_components_7)) (cE rs cs left parts (some (.fr (.dK (left.map fun a => (.inl a, .lst (I (R a))))))) (some (.fr (.int a))) none x7 x8) = some (.nx (cE rs cs left parts (some (.fr (.dK (left.map fun a => (.inl a, .lst (I (R a))))))) (some (.fr (.int lo))) y6 x7 y8)) := (for_val (by simp [cE])).trans lp
  let part : List Int := left.filter fun v => decide (v ∈ R lo ∧ lo ∈ R v)
  have s10 : s_components_10 (cE rs cs left parts (some (.fr (.dK (left.map fun a => (.inl a, .lst (I (R a))))))) (some (.fr (.int lo))) y6 x7 y8) = some (.nx (cE rs cs left parts (some (.fr (.dK (left.map fun a => (.inl a, .lst (I (R a))))))) (some (.fr (.int lo))) none (some (.fr (.lst (I part)))) y8)) := by
    have q := lc_ev (fun i : Int => D.int i) (fun v => decide (v ∈ R lo ∧ lo ∈ R v)) (fun i : Int => D.int i) left (n := 9) (vs := [6]) (fi := bnd (vV 2) asS) (gt := gN 6) (ft := vAnd (bnd (vOp (gInU false) (vV 6) (vOp gIxU (vV 4) (vV 5))) asB) (bnd (vOp (gInU false) (vV 5) (vOp gIxU (vV 4) (vV 6))) asB)) (fe := vV 6)
      (ρ := cE rs cs left parts (some (.fr (.dK (left.map fun a => (.inl a, .lst (I (R a))))))) (some (.fr (.int lo))) y6 x7 y8) (ρ1 := cE rs cs left parts (some (.fr (.dK (left.map fun a => (.inl a, .lst (I (R a))))))) (some (.fr (.int lo))) y6 x7 y8) (ρ0 := cE rs cs left parts (some (.fr (.dK (left.map fun a => (.inl a, .lst (I (R a))))))) (some (.fr (.int lo))) none x7 y8) (by simp [cE]; rfl) (by simp [cE]) rfl (fun v hv => by
        have d1 := gD_map (f := fun a => D.lst (I (R a))) hlo
        have d2 := gD_map (f := fun a => D.lst (I (R a))) hv
        have i1 : ∀ {neg : Bool}, gInU neg (.int v) (.lst (I (R lo))) = some (.fr (.bl (if neg then !decide (v ∈ R lo) else decide (v ∈ R lo)))) := inU_I rfl
        have i2 : ∀ {neg : Bool}, gInU neg (.int lo) (.lst (I (R v))) = some (.fr (.bl (if neg then !decide (lo ∈ R v) else decide (lo ∈ R v)))) := inU_I rfl
        generalize hkv : left.map (fun a => ((.inl a : L2.Key), D.lst (I (R a)))) = kv at d1 d2
        by_cases c1 : v ∈ R lo
        · by_cases c2 : lo ∈ R v
          · simp [stepC, wipeE, cE, d1, d2, i1, i2, c1, c2]
          · simp [stepC, wipeE, cE, d1, d2, i1, i2, c1, c2]
        · simp [stepC, wipeE, cE, d1, d2, i1, i2, c1]) (by omega)
    unfold s_components_10
    generalize vLc 9 [6] (bnd (vV 2) asS) (gN 6) (vAnd (bnd (vOp (gInU false) (vV 6) (vOp gIxU (vV 4) (vV 5))) asB) (bnd (vOp (gInU false) (vV 5) (vOp gIxU (vV 4) (vV 6))) asB)) (vV 6) = G at q
    simp [q]
    simp [cE, part, I]
  have s11 : (sDrop (vMu muAppend (vV 3) (vCons (vV 7) (vNil)))) (cE rs cs left parts (some (.fr (.dK (left.map fun a => (.inl a, .lst (I (R a))))))) (some (.fr (.int lo))) none (some (.fr (.lst (I part)))) y8) = some (.nx (cE rs cs left (parts ++ [part]) (some (.fr (.dK (left.map fun a => (.inl a, .lst (I (R a))))))) (some (.fr (.int lo))) none (some (.fr (.lst (I part)))) y8)) := by
    have hz : parts.length < 16777216 := by omega
    simp [cE, hz, PL]
  have s12 : s_components_12 (cE rs cs left (parts ++ [part]) (some (.fr (.dK (left.map fun a => (.inl a, .lst (I (R a))))))) (some (.fr (.int lo))) none (some (.fr (.lst (I part)))) y8) = some (.nx (cE rs cs (left.filter fun v => decide (v ∉ part)) (parts ++ [part]) (some (.fr (.dK (left.map fun a => (.inl a, .lst (I (R a))))))) (some (.fr (.int lo))) none (some (.fr (.lst (I part)))) y8)) := by
    have q := lc_ev (fun i : Int => D.int i) (fun v => decide (v ∉ part)) (fun i : Int => D.int i) left (n := 9) (vs := [6]) (fi := bnd (vV 2) asS) (gt := gN 6) (ft := bnd (vOp (gInU true) (vV 6) (vV 7)) asB) (fe := vV 6)
      (ρ := cE rs cs left (parts ++ [part]) (some (.fr (.dK (left.map fun a => (.inl a, .lst (I (R a))))))) (some (.fr (.int lo))) none (some (.fr (.lst (I part)))) y8) (ρ1 := cE rs cs left (parts ++ [part]) (some (.fr (.dK (left.map fun a => (.inl a, .lst (I (R a))))))) (some (.fr (.int lo))) none (some (.fr (.lst (I part)))) y8) (ρ0 := cE rs cs left (parts ++ [part]) (some (.fr (.dK (left.map fun a => (.inl a, .lst (I (R a))))))) (some (.fr (.int lo))) none (some (.fr (.lst (I part)))) y8) (by simp [cE]; rfl) (by simp [cE]) rfl (fun v hv => by
        have i1 : ∀ {neg : Bool}, gInU neg (.int v) (.lst (I part)) = some (.fr (.bl (if neg then !decide (v ∈ part) else decide (v ∈ part)))) := inU_I rfl
        by_cases c1 : v ∈ part
        · simp [stepC, wipeE, cE, i1, c1]
        · simp [stepC, wipeE, cE, i1, c1]) (by omega)
    unfold s_components_12
    generalize vLc 9 [6] (bnd (vV 2) asS) (gN 6) (bnd (vOp (gInU true) (vV 6) (vV 7)) asB) (vV 6) = G at q
    simp [q]
    simp [cE, I]
  refine ⟨lo, part, _, _, _, _, _, (seq_nx s4).trans ((seq_nx s5).trans ((seq_nx s6).trans ((seq_nx s10).trans ((seq_nx s11).trans s12)))), hlo, nd.filter _, fun v => ?_⟩
  simp only [part, List.mem_filter, decide_eq_true_eq]
  constructor
  · rintro ⟨h1, h2, h3⟩
    exact ⟨h1, ((hR lo hlo).2 v).mp h2, ((hR v h1).2 lo).mp h3⟩
  · rintro ⟨h1, h2, h3⟩
    exact ⟨h1, ((hR lo hlo).2 v).mpr h2, ((hR v h1).2 lo).mpr h3⟩
end
end Wk

namespace Wk
open PySem PySem.Spec PyProof.Rows L2 He Vl Gr
section
variable {rs : List Rw} {cs : List Int}
structure Cm (E : Int → Int → Prop) (cs left : List Int) (parts : List (List Int)) : Prop where
  nd : left.Nodup
  sub : ∀ v ∈ left, v ∈ cs
  pt : ∀ p ∈ parts, p.Nodup ∧ Scc E (· ∈ cs) (· ∈ p)
  cov : ∀ v ∈ cs, v ∈ left ∨ ∃ p ∈ parts, v ∈ p
  cl : ∀ v w, v ∈ left → w ∈ cs → Rch E (· ∈ cs) v w → Rch E (· ∈ cs) w v → w ∈ left
theorem Cm.next {E : Int → Int → Prop} {left part : List Int} {parts : List (List Int)} {lo : Int} (h : Cm E cs left parts) (hlo : lo ∈ left) (hnd : part.Nodup) (hp : ∀ v, v ∈ part ↔ v ∈ left ∧ Rch E (· ∈ left) lo v ∧ Rch E (· ∈ left) v lo) : Cm E cs (left.filter fun v => decide (v ∉ part)) (parts ++ [part]) := by
  have hl := h.sub lo hlo
  let C : Int → Prop := fun v => v ∈ cs ∧ Rch E (· ∈ cs) lo v ∧ Rch E (· ∈ cs) v lo
  have S : Scc E (· ∈ cs) C := Scc.self (P := (· ∈ cs)) hl
  have cin : ∀ v, C v → v ∈ left := fun v c => h.cl lo v hlo c.1 c.2.1 c.2.2
  have c0 : C lo := ⟨hl, .refl, .refl⟩
  have e : ∀ v, v ∈ part ↔ C v := fun v => by
    rw [hp v]
    constructor
    · rintro ⟨h1, h2, h3⟩
      exact ⟨h.sub v h1, h2.mono h.sub, h3.mono h.sub⟩
    · intro c
      exact ⟨cin v c, (S.way c0 c).mono cin, (S.way c c0).mono cin⟩
  have eC : (fun v => v ∈ part) = C := funext fun v => propext (e v)
  refine ⟨h.nd.filter _, fun v hv => h.sub v (List.mem_filter.mp hv).1, fun p hp => ?_, fun v hv => ?_, fun v w hv hw r1 r2 => ?_⟩
  · rcases List.mem_append.mp hp with z | z
    · exact h.pt p z
    · simp at z
      subst z
      exact ⟨hnd, by show Scc E (· ∈ cs) (fun v => v ∈ p); rw [eC]; exact S⟩
  · rcases h.cov v hv with z | ⟨p, z1, z2⟩
    · by_cases c : v ∈ part
      · exact .inr ⟨part, by simp, c⟩
      · exact .inl (List.mem_filter.mpr ⟨z, by simpa using c⟩)
    · exact .inr ⟨p, by simp [z1], z2⟩
  · obtain ⟨v1, v2⟩ := List.mem_filter.mp hv
    have v2 : v ∉ part := by simpa using v2
    have wl := h.cl v w v1 hw r1 r2
    refine List.mem_filter.mpr ⟨wl, ?_⟩
    have : w ∉ part := fun z => v2 ((e v).mpr (by
      have c := (e w).mp z
      exact ⟨h.sub v v1, c.2.1.trans r2, r1.trans c.2.2⟩))
    simpa using this
theorem c_loop (O : OkR rs) (hcs : ∀ v ∈ cs, Vd rs v) : ∀ (n : Nat) (left : List Int) (parts : List (List Int)) (x4 x5 x6 x7 x8 : Option T), Cm (Ed rs) cs left parts → left.length ≤ 1000 → left.length + parts.length ≤ 1000 → left.length < n →
    ∃ parts' y4 y5 y6 y7 y8, loopW (bnd (vV 2) asT) b_components_3 n (cE rs cs left parts x4 x5 x6 x7 x8) = some (.nx (cE rs cs [] parts' y4 y5 y6 y7 y8)) ∧ Cm (Ed rs) cs [] parts'
  | 0, left, parts, _, _, _, _, _, _, _, _, h => by omega
  | n + 1, left, parts, x4, x5, x6, x7, x8, C, hb, hp, hn => by
    have t1 : (bnd (vV 2) asT) (cE rs cs left parts x4 x5 x6 x7 x8) = some (.val (!left.isEmpty) (cE rs cs left parts x4 x5 x6 x7 x8)) := by
      cases left <;> simp [cE, I]
    by_cases hl : left = []
    · subst hl
      refine ⟨parts, x4, x5, x6, x7, x8, ?_, C⟩
      unfold loopW
      rw [t1]
      rfl
    · obtain ⟨lo, part, y4, y5, y6, y7, y8, rd, h1, h2, h3⟩ := c_round O (cs := cs) (parts := parts) (x4 := x4) (x5 := x5) (x6 := x6) (x7 := x7) (x8 := x8) (fun v hv => hcs v (C.sub v hv)) C.nd hb (by omega) hl
      have C2 := C.next h1 h2 h3
      have lop : lo ∈ part := (h3 lo).mpr ⟨h1, .refl, .refl⟩
      have lt : (left.filter fun v => decide (v ∉ part)).length < left.length := by
        have le := List.length_filter_le (fun v => decide (v ∉ part)) left
        rcases Nat.lt_or_eq_of_le le with z | z
        · exact z
        · have := (List.length_filter_eq_length_iff.mp z) lo h1
          simp [lop] at this
      obtain ⟨parts', z4, z5, z6, z7, z8, ih, C3⟩ := c_loop O hcs n (left.filter fun v => decide (v ∉ part)) (parts ++ [part]) y4 y5 y6 y7 y8 C2 (by omega) (by rw [List.length_append]; simp only [List.length_cons, List.length_nil]; omega) (by omega)
      refine ⟨parts', z4, z5, z6, z7, z8, ?_, C3⟩
      have ne : (!left.isEmpty) = true := by cases left <;> simp_all
      unfold loopW
      rw [t1, ne]
      simp only
      rw [rd]
      exact ih
theorem components_F (O : OkR rs) (hcs : ∀ v ∈ cs, Vd rs v) (nd : cs.Nodup) (hb : cs.length ≤ 900) : ∃ parts : List (List Int), F_components [.fr (RL rs), .fr (.lst (I cs))] = some (.ret (.lst (PL parts)) [.fr (RL rs), .fr (.lst (I cs))]) ∧ (∀ p ∈ parts, p.Nodup ∧ Scc (Ed rs) (· ∈ cs) (· ∈ p)) ∧ ∀ v ∈ cs, ∃ p ∈ parts, v ∈ p := by
  have C0 : Cm (Ed rs) cs cs [] := ⟨nd, fun v h => h, fun p h => (by cases h), fun v h => .inl h, fun v w _ h _ _ => h⟩
  obtain ⟨parts, y4, y5, y6, y7, y8, lp, C⟩ := c_loop O hcs 1000000 cs [] none none none none none C0 (by omega) (by simp; omega) (by omega)
  refine ⟨parts, body_ret (w := .al 3) (ρ := cE rs cs [] parts y4 y5 y6 y7 y8) rfl ?_ rfl rfl, C.pt, fun v hv => (C.cov v hv).resolve_left (by simp)⟩
  show g_components [some (.fr (RL rs)), some (.fr (.lst (I cs))), none, none, none, none, none, none, none] = _
  have lp' : s_components_3 (cE rs cs cs [] none none none none none) = _ := lp
  unfold g_components
  rw [seq_nx (ρ' := [some (.fr (RL rs)), some (.fr (.lst (I cs))), some (.fr (.lst (I cs))), none, none, none, none, none, none]) (by simp), seq_nx (ρ' := cE rs cs cs [] none none none none none) (by simp [cE]), seq_nx lp']
  simp [cE]
/-! ### entered_at -/
def outR (rg p : List Int) : List Int := rg.filter fun v => decide (v ∉ p)
def entR (rs : List Rw) (rg p : List Int) : List Int := p.filter fun g => (outR rg p).any fun u => decide (g ∈ nxt rs u)
theorem entR_mem {rg p : List Int} {v : Int} : v ∈ entR rs rg p ↔ Ent (Ed rs) (· ∈ rg) (· ∈ p) v := by
  unfold entR outR Ent Ed
  simp only [List.mem_filter, List.any_eq_true, decide_eq_true_eq]
  constructor
  · rintro ⟨h1, u, ⟨h2, h3⟩, h4⟩
    exact ⟨h1, u, h2, h3, h4⟩
  · rintro ⟨h1, u, h2, h3, h4⟩
    exact ⟨h1, u, ⟨h2, h3⟩, h4⟩
theorem entered_F {rg p : List Int} (hr : ∀ v ∈ rg, Vd rs v) (h1 : rg.length ≤ 1000) (h2 : p.length ≤ 1000) : F_entered_at [.fr (RL rs), .fr (.lst (I rg)), .fr (.lst (I p))] = some (.ret (.lst (I (entR rs rg p))) [.fr (RL rs), .fr (.lst (I rg)), .fr (.lst (I p))]) := by
  refine body_ret (w := .nw (.lst (I (entR rs rg p)))) (ρ := [some (.fr (RL rs)), some (.fr (.lst (I rg))), some (.fr (.lst (I p))), some (.fr (.lst (I (outR rg p)))), none, none]) rfl ?_ rfl rfl
  show g_entered_at [some (.fr (RL rs)), some (.fr (.lst (I rg))), some (.fr (.lst (I p))), none, none, none] = _
  have a1 : s_entered_at_1 [some (.fr (RL rs)), some (.fr (.lst (I rg))), some (.fr (.lst (I p))), none, none, none] = some (.nx [some (.fr (RL rs)), some (.fr (.lst (I rg))), some (.fr (.lst (I p))), some (.fr (.lst (I (outR rg p)))), none, none]) := by
    have q := lc_ev (fun i : Int => D.int i) (fun v => decide (v ∉ p)) (fun i : Int => D.int i) rg (n := 6) (vs := [4]) (fi := bnd (vV 1) asS) (gt := gN 4) (ft := bnd (vOp (gInU true) (vV 4) (vV 2)) asB) (fe := vV 4)
      (ρ := [some (.fr (RL rs)), some (.fr (.lst (I rg))), some (.fr (.lst (I p))), none, none, none]) (ρ1 := [some (.fr (RL rs)), some (.fr (.lst (I rg))), some (.fr (.lst (I p))), none, none, none]) (ρ0 := [some (.fr (RL rs)), some (.fr (.lst (I rg))), some (.fr (.lst (I p))), none, none, none]) (by simp; rfl) (by simp) rfl (fun v hv => by
        have i1 : ∀ {neg : Bool}, gInU neg (.int v) (.lst (I p)) = some (.fr (.bl (if neg then !decide (v ∈ p) else decide (v ∈ p)))) := inU_I rfl
        by_cases c1 : v ∈ p <;> simp [stepC, wipeE, i1, c1]) (by omega)
    unfold s_entered_at_1
    generalize vLc 6 [4] (bnd (vV 1) asS) (gN 4) (bnd (vOp (gInU true) (vV 4) (vV 2)) asB) (vV 4) = G at q
    simp [q]
    simp [outR, I]
  have hout : ∀ v ∈ outR rg p, Vd rs v := fun v hv => hr v (List.mem_filter.mp hv).1
  generalize ho : outR rg p = out at a1 hout
  have e : entR rs rg p = p.filter fun g => out.any fun u => decide (g ∈ nxt rs u) := by unfold entR; rw [ho]
  rw [e]
  refine (seq_nx a1).trans ?_
  have q := lc_ev (fun i : Int => D.int i) (fun g => out.any fun u => decide (g ∈ nxt rs u)) (fun i : Int => D.int i) p (n := 6) (vs := [5]) (fi := bnd (vV 2) asS) (gt := gN 5) (ft := bnd (vGx false 6 [4] (bnd (vV 3) asS) (gN 4) (Vl.ret true) (vOp (gInU false) (vV 5) (vOp gIxU (vOp gIxU (vV 0) (vV 4)) (vC (.int 2))))) asT) (fe := vV 5)
      (ρ := [some (.fr (RL rs)), some (.fr (.lst (I rg))), some (.fr (.lst (I p))), some (.fr (.lst (I out))), none, none]) (ρ1 := [some (.fr (RL rs)), some (.fr (.lst (I rg))), some (.fr (.lst (I p))), some (.fr (.lst (I out))), none, none]) (ρ0 := [some (.fr (RL rs)), some (.fr (.lst (I rg))), some (.fr (.lst (I p))), some (.fr (.lst (I out))), none, none]) (by simp; rfl) (by simp) rfl (fun v hv => by
        have g := gx_I (goOn := false) (vs := [4]) (i := 4) (n := 6) (fi := bnd (vV 3) asS) (fe := vOp (gInU false) (vV 5) (vOp gIxU (vOp gIxU (vV 0) (vV 4)) (vC (.int 2)))) (ρ := [some (.fr (RL rs)), some (.fr (.lst (I rg))), some (.fr (.lst (I p))), some (.fr (.lst (I out))), none, some (.fr (.int v))]) (ρ0 := [some (.fr (RL rs)), some (.fr (.lst (I rg))), some (.fr (.lst (I p))), some (.fr (.lst (I out))), none, some (.fr (.int v))])
          (p := fun u => decide (v ∈ nxt rs u)) (xs := out) (by simp) (by simp) rfl (fun u hu => by
            obtain ⟨r, hr, h1, h2⟩ := row_at (hout u hu)
            have a6 : L2.atI [r.act, .int r.cnt, .tup (I r.nx)] 2 = some (.tup (I r.nx)) := L2.atI_nat (j := 2) (by rfl)
            have i1 : ∀ {neg : Bool}, gInU neg (.int v) (.tup (I r.nx)) = some (.fr (.bl (if neg then !decide (v ∈ r.nx) else decide (v ∈ r.nx)))) := inU_I rfl
            rw [h2]
            refine ⟨_, [some (.fr (RL rs)), some (.fr (.lst (I rg))), some (.fr (.lst (I p))), some (.fr (.lst (I out))), some (.fr (.int u)), some (.fr (.int v))], rfl, ?_, rfl⟩
            simp [RL, h1, rwD, a6, i1])
        generalize vGx false 6 [4] (bnd (vV 3) asS) (gN 4) (Vl.ret true) (vOp (gInU false) (vV 5) (vOp gIxU (vOp gIxU (vV 0) (vV 4)) (vC (.int 2)))) = G at g
        generalize (out.any fun u => decide (v ∈ nxt rs u)) = bb at g
        cases bb <;> simp [stepC, wipeE, g]) (by omega)
  unfold s_entered_at_2
  generalize vLc 6 [5] (bnd (vV 2) asS) (gN 5) (bnd (vGx false 6 [4] (bnd (vV 3) asS) (gN 4) (Vl.ret true) (vOp (gInU false) (vV 5) (vOp gIxU (vOp gIxU (vV 0) (vV 4)) (vC (.int 2))))) asT) (vV 5) = G at q
  simp [q]
  simp [I]
end
end Wk

namespace Wk
open PySem PySem.Spec PyProof.Rows L2 He Vl Gr
section
variable {rs : List Rw} {cs : List Int}
/-- a row's act -/
def ActOk (r : Rw) : Prop := ∃ (z : Str) (rest : List D), r.act = .tup (.str z :: rest) ∧ PyData.strOk z = true ∧ (z = Str.ofString "branch" → 2 ≤ r.nx.length)
theorem jump_F (lab : List Int) (i : Int) : ∃ z : Str, F_jump [.fr (.lst (I lab)), .fr (.int i)] = some (.ret (.fr (.tup [.str z, .int i])) [.fr (.lst (I lab)), .fr (.int i)]) := by
  have i1 : ∀ {neg : Bool}, gInU neg (.int i) (.lst (I lab)) = some (.fr (.bl (if neg then !decide (i ∈ lab) else decide (i ∈ lab)))) := inU_I rfl
  by_cases c : i ∈ lab
  · refine ⟨_, body_ret (w := .fr (.tup [.str (Str.ofString "again"), .int i])) (ρ := [some (.fr (.lst (I lab))), some (.fr (.int i))]) rfl ?_ rfl rfl⟩
    simp [g_jump, s_jump_1, s_jump_2, s_jump_3, i1, c]
  · refine ⟨_, body_ret (w := .fr (.tup [.str (Str.ofString "leave"), .int i])) (ρ := [some (.fr (.lst (I lab))), some (.fr (.int i))]) rfl ?_ rfl rfl⟩
    simp [g_jump, s_jump_1, s_jump_2, s_jump_3, i1, c]
theorem nx_at {l : List Int} {j : Nat} (h : j < l.length) : ∃ i, L2.atI (I l) (j : Int) = some (.int i) := ⟨l[j], L2.atI_nat (by rw [I_get, List.getElem?_eq_getElem h]; rfl)⟩
theorem head_F (O : OkR rs) (A : ∀ r ∈ rs, ActOk r) {h : Int} (hv : Vd rs h) (lab : List Int) : ∃ ds : List D, 1 ≤ ds.length ∧ ds.length ≤ 2 ∧ F_head_shape [.fr (RL rs), .fr (.int h), .fr (.lst (I lab))] = some (.ret (.fr (.tup ds)) [.fr (RL rs), .fr (.int h), .fr (.lst (I lab))]) := by
  obtain ⟨r, hr, h1, h2⟩ := row_at hv
  obtain ⟨z, rest, ea, hz, hb⟩ := A r hr
  have a0 : L2.atI [r.act, .int r.cnt, .tup (I r.nx)] 0 = some r.act := L2.atI_nat (j := 0) (by rfl)
  have a2 : L2.atI [r.act, .int r.cnt, .tup (I r.nx)] 2 = some (.tup (I r.nx)) := L2.atI_nat (j := 2) (by rfl)
  have a3 : L2.atI (.str z :: rest) 0 = some (.str z) := L2.atI_nat (j := 0) (by rfl)
  have e1 : gEq (.str z) (.str (Str.ofString "branch")) = some (.fr (.bl (z == Str.ofString "branch"))) := eqi_str hz (strOk_of _)
  have e2 : gEq (.str z) (.str (Str.ofString "select")) = some (.fr (.bl (z == Str.ofString "select"))) := eqi_str hz (strOk_of _)
  have b1 : s_head_shape_1 [some (.fr (RL rs)), some (.fr (.int h)), some (.fr (.lst (I lab))), none, none, none] = some (.nx [some (.fr (RL rs)), some (.fr (.int h)), some (.fr (.lst (I lab))), some (.fr r.act), none, none]) := by
    simp [s_head_shape_1, RL, h1, rwD, a0]
  have b2 : s_head_shape_2 [some (.fr (RL rs)), some (.fr (.int h)), some (.fr (.lst (I lab))), some (.fr r.act), none, none] = some (.nx [some (.fr (RL rs)), some (.fr (.int h)), some (.fr (.lst (I lab))), some (.fr r.act), some (.fr (.tup (I r.nx))), none]) := by
    simp [s_head_shape_2, RL, h1, rwD, a2]
  have fin : ∀ {ds : List D} {x : Option T}, 1 ≤ ds.length → ds.length ≤ 2 → (sSeq s_head_shape_3 (sSeq s_head_shape_5 (sSeq s_head_shape_7 s_head_shape_9))) [some (.fr (RL rs)), some (.fr (.int h)), some (.fr (.lst (I lab))), some (.fr r.act), some (.fr (.tup (I r.nx))), none] = some (.ret (.fr (.tup ds)) [some (.fr (RL rs)), some (.fr (.int h)), some (.fr (.lst (I lab))), some (.fr r.act), some (.fr (.tup (I r.nx))), x]) → ∃ ds : List D, 1 ≤ ds.length ∧ ds.length ≤ 2 ∧ F_head_shape [.fr (RL rs), .fr (.int h), .fr (.lst (I lab))] = some (.ret (.fr (.tup ds)) [.fr (RL rs), .fr (.int h), .fr (.lst (I lab))]) := fun {ds x} l1 l2 e =>
    ⟨ds, l1, l2, body_ret rfl ((seq_nx b1).trans ((seq_nx b2).trans e)) rfl rfl⟩
  rw [ea] at b2 fin
  generalize RL rs = RR at fin
  by_cases c1 : z = Str.ofString "branch"
  · have l2 := hb c1
    obtain ⟨i, n0⟩ := nx_at (l := r.nx) (j := 0) (by omega)
    obtain ⟨i', n1⟩ := nx_at (l := r.nx) (j := 1) (by omega)
    have n0 : L2.atI (I r.nx) 0 = some (.int i) := n0
    have n1 : L2.atI (I r.nx) 1 = some (.int i') := n1
    obtain ⟨z0, j0⟩ := jump_F lab i
    obtain ⟨z1, j1⟩ := jump_F lab i'
    refine fin (ds := [.tup [.str (Str.ofString "if_row"), .int h, .tup [.tup [.str z0, .int i]], .tup [.tup [.str z1, .int i']]]]) (x := none) (by simp) (by simp) (seq_ret ?_)
    rw [c1] at a3 e1
    simp [s_head_shape_3, s_head_shape_4, a3, e1, n0, n1, j0, j1, c1]
  have k3 : s_head_shape_3 [some (.fr RR), some (.fr (.int h)), some (.fr (.lst (I lab))), some (.fr (.tup (.str z :: rest))), some (.fr (.tup (I r.nx))), none] = some (.nx [some (.fr RR), some (.fr (.int h)), some (.fr (.lst (I lab))), some (.fr (.tup (.str z :: rest))), some (.fr (.tup (I r.nx))), none]) := by
    simp [s_head_shape_3, a3, e1, c1]
  by_cases c2 : z = Str.ofString "select"
  · have ex : ∃ f : Int → D, ∀ i, F_jump [.fr (.lst (I lab)), .fr (.int i)] = some (.ret (.fr (f i)) [.fr (.lst (I lab)), .fr (.int i)]) := ⟨fun i => .tup [.str (Classical.choose (jump_F lab i)), .int i], fun i => Classical.choose_spec (jump_F lab i)⟩
    obtain ⟨f, hf⟩ := ex
    have ar := O.ar r hr
    have q := lc_map (fun i : Int => D.int i) (fun i : Int => .tup [f i]) r.nx (n := 6) (vs := [5]) (fi := bnd (vV 4) asS) (gt := gN 5) (ft := Vl.ret true) (fe := vTup (vCons (vCallG 2 F_jump (vCons (vV 2) (vCons (vV 5) (vNil)))) (vNil)))
      (ρ := [some (.fr RR), some (.fr (.int h)), some (.fr (.lst (I lab))), some (.fr (.tup (.str z :: rest))), some (.fr (.tup (I r.nx))), none]) (ρ1 := [some (.fr RR), some (.fr (.int h)), some (.fr (.lst (I lab))), some (.fr (.tup (.str z :: rest))), some (.fr (.tup (I r.nx))), none]) (ρ0 := [some (.fr RR), some (.fr (.int h)), some (.fr (.lst (I lab))), some (.fr (.tup (.str z :: rest))), some (.fr (.tup (I r.nx))), none]) (by simp; rfl) (by simp) rfl (fun i hi => by
        simp [stepC, wipeE, hf i]) (by omega)
    refine fin (ds := [.tup [.str (Str.ofString "switch_row"), .int h, .tup (r.nx.map fun i => .tup [f i])]]) (x := none) (by simp) (by simp) ((seq_nx k3).trans (seq_ret ?_))
    rw [c2] at a3 e2 q ⊢
    unfold s_head_shape_5 s_head_shape_6
    generalize vLc 6 [5] (bnd (vV 4) asS) (gN 5) (Vl.ret true) (vTup (vCons (vCallG 2 F_jump (vCons (vV 2) (vCons (vV 5) (vNil)))) (vNil))) = G at q
    simp [a3, e2, q]
  have k5 : s_head_shape_5 [some (.fr RR), some (.fr (.int h)), some (.fr (.lst (I lab))), some (.fr (.tup (.str z :: rest))), some (.fr (.tup (I r.nx))), none] = some (.nx [some (.fr RR), some (.fr (.int h)), some (.fr (.lst (I lab))), some (.fr (.tup (.str z :: rest))), some (.fr (.tup (I r.nx))), none]) := by
    simp [s_head_shape_5, a3, e2, c2]
  by_cases c3 : r.nx = []
  · refine fin (ds := [.tup [.str (Str.ofString "row"), .int h]]) (x := none) (by simp) (by simp) ((seq_nx k3).trans ((seq_nx k5).trans (seq_ret ?_)))
    rw [c3]
    simp [s_head_shape_7, s_head_shape_8, I]
  · have lp : 0 < r.nx.length := List.length_pos_iff.mpr c3
    obtain ⟨i, n0⟩ := nx_at (l := r.nx) (j := 0) lp
    have n0 : L2.atI (I r.nx) 0 = some (.int i) := n0
    obtain ⟨z0, j0⟩ := jump_F lab i
    have k7 : s_head_shape_7 [some (.fr RR), some (.fr (.int h)), some (.fr (.lst (I lab))), some (.fr (.tup (.str z :: rest))), some (.fr (.tup (I r.nx))), none] = some (.nx [some (.fr RR), some (.fr (.int h)), some (.fr (.lst (I lab))), some (.fr (.tup (.str z :: rest))), some (.fr (.tup (I r.nx))), none]) := by
      obtain ⟨y, l, e⟩ := List.exists_cons_of_ne_nil c3
      rw [e]
      simp [s_head_shape_7, I]
    refine fin (ds := [.tup [.str (Str.ofString "row"), .int h], .tup [.str z0, .int i]]) (x := none) (by simp) (by simp) ((seq_nx k3).trans ((seq_nx k5).trans ((seq_nx k7).trans ?_)))
    simp [s_head_shape_9, n0, j0]
end
end Wk

namespace Wk
open PySem PySem.Spec PyProof.Rows L2 He Vl Gr
section
variable {rs : List Rw} {cs : List Int}
abbrev tagD (z : String) : D := .str (Str.ofString z)
def Good (rs : List Rw) (n : Nat) (rg p : List Int) : Prop := ∃ e, e ∈ p ∧ (∀ v, Ent (Ed rs) (· ∈ rg) (· ∈ p) v → v = e) ∧ St (Ed rs) n (· ∈ p) e
/-- what outline_of tells -/
def OutD (rs : List Rw) (n : Nat) (rg : List Int) (h : Int) (t : D) : Prop :=
  ((∃ ds : List D, ds.length ≤ n + 2 ∧ t = .tup [tagD "structured", .tup ds]) ∧ St (Ed rs) n (· ∈ rg) h) ∨ ((∃ a b : D, t = .tup [tagD "tangled", a, b]) ∧ ¬ St (Ed rs) n (· ∈ rg) h)
structure OutP (rs : List Rw) (n : Nat) (F : FF) : Prop where
  p : ∀ (rg : List Int) (h : Int) (lab : List Int), (∀ v ∈ rg, Vd rs v) → rg.Nodup → rg.length ≤ n → rg.length ≤ 900 → Rooted (Ed rs) (· ∈ rg) h → lab.length + n ≤ 2000 → ∃ t, F [.fr (RL rs), .fr (.lst (I rg)), .fr (.int h), .fr (.lst (I lab))] = some (.ret (.fr t) [.fr (RL rs), .fr (.lst (I rg)), .fr (.int h), .fr (.lst (I lab))]) ∧ OutD rs n rg h t
def oE (rs : List Rw) (rg : List Int) (h : Int) (lab : List Int) (x4 : Option T) (inner : List Int) (sh : List D) (x7 x8 x9 x10 : Option T) : Vl.Env := [some (.fr (RL rs)), some (.fr (.lst (I rg))), some (.fr (.int h)), some (.fr (.lst (I lab))), x4, some (.fr (.lst (I inner))), some (.fr (.tup sh)), x7, x8, x9, x10]
/-- one part -/
theorem part_F (O : OkR rs) {n : Nat} {F : FF} (IH : OutP rs n F) {rg p lab inner : List Int} {h : Int} {sh : List D} (hv : ∀ v ∈ rg, Vd rs v) (hl : rg.length ≤ n + 1) (h9 : rg.length ≤ 900) (nd : rg.Nodup) (R : Rooted (Ed rs) (· ∈ rg) h) (hp : p.Nodup) (S : Scc (Ed rs) (fun v => v ∈ rg ∧ v ≠ h) (· ∈ p)) (hi : inner.length + n ≤ 2000) (hn : n ≤ 1000) (hs : sh.length ≤ n + 3) {x4 x8 x9 x10 : Option T} :
    (∃ sh' y8 y9 : _, b_outline_of_4 F (oE rs rg h lab x4 inner sh (some (.fr (.lst (I p)))) x8 x9 x10) = some (.nx (oE rs rg h lab x4 inner sh' (some (.fr (.lst (I p)))) y8 y9 x10)) ∧ sh'.length ≤ n + 3 ∧ Good rs n rg p) ∨
    (∃ a b y8 y9, b_outline_of_4 F (oE rs rg h lab x4 inner sh (some (.fr (.lst (I p)))) x8 x9 x10) = some (.ret (.fr (.tup [tagD "tangled", a, b])) (oE rs rg h lab x4 inner sh (some (.fr (.lst (I p)))) y8 y9 x10)) ∧ ¬ Good rs n rg p) := by
  have psub : ∀ v ∈ p, v ∈ rg.erase h := fun v hv => by
    have q := S.sub (C := (· ∈ p)) hv
    exact (List.mem_erase_of_ne q.2).mpr q.1
  have pl : p.length ≤ n := by
    have := nodup_le hp psub
    rw [List.length_erase_of_mem R.1] at this
    have := List.length_pos_of_mem (R.1 : h ∈ rg)
    omega
  have pv : ∀ v ∈ p, Vd rs v := fun v q => hv v (S.sub (C := (· ∈ p)) q).1
  have pl9 : p.length ≤ 900 := by
    have := nodup_le hp psub
    rw [List.length_erase_of_mem R.1] at this
    omega
  have ef := entered_F (p := p) hv (by omega) (by omega)
  have e5 : s_outline_of_5 F (oE rs rg h lab x4 inner sh (some (.fr (.lst (I p)))) x8 x9 x10) = some (.nx (oE rs rg h lab x4 inner sh (some (.fr (.lst (I p)))) (some (.fr (.lst (I (entR rs rg p))))) x9 x10)) := by
    simp [s_outline_of_5, oE, ef]
  have mem : ∀ v, v ∈ entR rs rg p ↔ Ent (Ed rs) (· ∈ rg) (· ∈ p) v := fun v => entR_mem
  have end_ : (entR rs rg p).Nodup := hp.filter _
  have ne : entR rs rg p ≠ [] := fun z => by
    obtain ⟨x, cx⟩ := S.ne
    obtain ⟨u, v, a1, a2, a3, a4⟩ := cross (C := (· ∈ p)) (h := h) R.1 (fun q => (S.sub (C := (· ∈ p)) q).2 rfl) (R.2 x (S.sub cx).1) cx
    have := (mem v).mpr ⟨a3, u, a1, a2, a4⟩
    rw [z] at this
    cases this
  generalize entR rs rg p = es at e5 mem end_ ne
  match es, ne with
  | [], ne => exact absurd rfl ne
  | e0 :: e1 :: r, _ =>
    refine .inr ⟨.int e0, .int e1, some (.fr (.lst (I (e0 :: e1 :: r)))), x9, (seq_nx e5).trans (seq_ret ?_), fun ⟨e, _, g, _⟩ => ?_⟩
    · have a0 : L2.atI (I (e0 :: e1 :: r)) 0 = some (.int e0) := L2.atI_nat (j := 0) (by rfl)
      have a1 : L2.atI (I (e0 :: e1 :: r)) 1 = some (.int e1) := L2.atI_nat (j := 1) (by rfl)
      have lt : (1 : Int) < ((e0 :: e1 :: r).length : Nat) := by simp; omega
      generalize e0 :: e1 :: r = es at a0 a1 lt
      simp [s_outline_of_6, s_outline_of_7, oE, a0, a1, lt]
    · have h0 := g e0 ((mem e0).mp (by simp))
      have h1 := g e1 ((mem e1).mp (by simp))
      have := (List.nodup_cons.mp end_).1
      rw [h0, h1] at this
      simp at this
  | [e0], _ =>
    have en0 := (mem e0).mp (by simp)
    have ep : e0 ∈ p := en0.1
    have only : ∀ v, Ent (Ed rs) (· ∈ rg) (· ∈ p) v → v = e0 := fun v q => by simpa using (mem v).mpr q
    have e6 : s_outline_of_6 F (oE rs rg h lab x4 inner sh (some (.fr (.lst (I p)))) (some (.fr (.lst (I [e0])))) x9 x10) = some (.nx (oE rs rg h lab x4 inner sh (some (.fr (.lst (I p)))) (some (.fr (.lst (I [e0])))) x9 x10)) := by
      simp [s_outline_of_6, oE, I]
    obtain ⟨t, tf, T⟩ := IH.p p e0 inner pv hp pl pl9 (S.rooted ep) hi
    have a0 : L2.atI (I [e0]) 0 = some (.int e0) := L2.atI_nat (j := 0) (by rfl)
    have e8 : s_outline_of_8 F (oE rs rg h lab x4 inner sh (some (.fr (.lst (I p)))) (some (.fr (.lst (I [e0])))) x9 x10) = some (.nx (oE rs rg h lab x4 inner sh (some (.fr (.lst (I p)))) (some (.fr (.lst (I [e0])))) (some (.fr t)) x10)) := by
      simp [s_outline_of_8, oE, a0, tf]
    rcases T with ⟨⟨ds, dl, rfl⟩, st⟩ | ⟨⟨a, b, rfl⟩, st⟩
    · have e9 : s_outline_of_9 F (oE rs rg h lab x4 inner sh (some (.fr (.lst (I p)))) (some (.fr (.lst (I [e0])))) (some (.fr (.tup [tagD "structured", .tup ds]))) x10) = some (.nx (oE rs rg h lab x4 inner sh (some (.fr (.lst (I p)))) (some (.fr (.lst (I [e0])))) (some (.fr (.tup [tagD "structured", .tup ds]))) x10)) := by
        have b0 : L2.atI [tagD "structured", .tup ds] 0 = some (tagD "structured") := L2.atI_nat (j := 0) (by rfl)
        have q : gEq (tagD "structured") (tagD "tangled") = some (.fr (.bl false)) := by
          rw [eqi_str (strOk_of _) (strOk_of _)]; simp
        simp [s_outline_of_9, oE, b0, q]
      refine .inl ⟨.tup [tagD "block", .int e0, .tup sh] :: ds, some (.fr (.lst (I [e0]))), some (.fr (.tup [tagD "structured", .tup ds])), (seq_nx e5).trans ((seq_nx e6).trans ((seq_nx e8).trans ((seq_nx e9).trans ?_))), by simp; omega, e0, ep, only, st⟩
      · have b1 : L2.atI [tagD "structured", .tup ds] 1 = some (.tup ds) := L2.atI_nat (j := 1) (by rfl)
        have sz : 1 + ds.length ≤ 16777216 := by omega
        simp [s_outline_of_11, oE, b1, a0, sz]
    · refine .inr ⟨a, b, some (.fr (.lst (I [e0]))), some (.fr (.tup [tagD "tangled", a, b])), (seq_nx e5).trans ((seq_nx e6).trans ((seq_nx e8).trans (seq_ret ?_))), fun ⟨e, _, g, s⟩ => ?_⟩
      · have b0 : L2.atI [tagD "tangled", a, b] 0 = some (tagD "tangled") := L2.atI_nat (j := 0) (by rfl)
        have q : gEq (tagD "tangled") (tagD "tangled") = some (.fr (.bl true)) := by
          rw [eqi_str (strOk_of _) (strOk_of _)]; simp
        simp [s_outline_of_9, oE, b0, q]
      · have := g e0 en0
        exact st (this ▸ s)
theorem parts_F (O : OkR rs) {n : Nat} {F : FF} (IH : OutP rs n F) {rg lab inner : List Int} {h : Int} (hv : ∀ v ∈ rg, Vd rs v) (hl : rg.length ≤ n + 1) (h9 : rg.length ≤ 900) (nd : rg.Nodup) (R : Rooted (Ed rs) (· ∈ rg) h) (hi : inner.length + n ≤ 2000) (hn : n ≤ 1000) {x4 x10 : Option T} : ∀ {ps : List (List Int)} {sh : List D} {x7 x8 x9 : Option T}, (∀ p ∈ ps, p.Nodup ∧ Scc (Ed rs) (fun v => v ∈ rg ∧ v ≠ h) (· ∈ p)) → sh.length ≤ n + 3 →
    (∃ sh' y7 y8 y9, loopD (gN 7) (b_outline_of_4 F) (PL ps) (oE rs rg h lab x4 inner sh x7 x8 x9 x10) = some (.nx (oE rs rg h lab x4 inner sh' y7 y8 y9 x10)) ∧ sh'.length ≤ n + 3 ∧ ∀ p ∈ ps, Good rs n rg p) ∨
    (∃ a b sh' y7 y8 y9, loopD (gN 7) (b_outline_of_4 F) (PL ps) (oE rs rg h lab x4 inner sh x7 x8 x9 x10) = some (.ret (.fr (.tup [tagD "tangled", a, b])) (oE rs rg h lab x4 inner sh' y7 y8 y9 x10)) ∧ ∃ p ∈ ps, ¬ Good rs n rg p)
  | [], sh, x7, x8, x9, _, hs => .inl ⟨sh, x7, x8, x9, rfl, hs, fun p h => by cases h⟩
  | p :: ps, sh, x7, x8, x9, hp, hs => by
    obtain ⟨p1, p2⟩ := hp p List.mem_cons_self
    have un : ∀ {r}, (b_outline_of_4 F) (oE rs rg h lab x4 inner sh (some (.fr (.lst (I p)))) x8 x9 x10) = r → loopD (gN 7) (b_outline_of_4 F) (PL (p :: ps)) (oE rs rg h lab x4 inner sh x7 x8 x9 x10) = (match r with | some (.nx ρ2) => loopD (gN 7) (b_outline_of_4 F) (PL ps) ρ2 | some (.cnt ρ2) => loopD (gN 7) (b_outline_of_4 F) (PL ps) ρ2 | some (.brk ρ2) => some (.nx ρ2) | r => r) := fun {r} e => by
      show loopD (gN 7) (b_outline_of_4 F) (.lst (I p) :: PL ps) _ = _
      rw [← e]
      rfl
    rcases part_F O IH hv hl h9 nd R p1 p2 hi hn hs (x4 := x4) (x8 := x8) (x9 := x9) (x10 := x10) (lab := lab) with ⟨sh', y8, y9, e, l, g⟩ | ⟨a, b, y8, y9, e, g⟩
    · rcases parts_F O IH hv hl h9 nd R hi hn (x4 := x4) (x10 := x10) (lab := lab) (ps := ps) (sh := sh') (x7 := some (.fr (.lst (I p)))) (x8 := y8) (x9 := y9) (fun q hq => hp q (List.mem_cons_of_mem _ hq)) l with ⟨sh2, z7, z8, z9, e2, l2, g2⟩ | ⟨a, b, sh2, z7, z8, z9, e2, q, hq, g2⟩
      · exact .inl ⟨sh2, z7, z8, z9, (un e).trans e2, l2, fun q hq => (List.mem_cons.mp hq).elim (fun z => z ▸ g) (g2 q)⟩
      · exact .inr ⟨a, b, sh2, z7, z8, z9, (un e).trans e2, q, List.mem_cons_of_mem _ hq, g2⟩
    · exact .inr ⟨a, b, sh, _, y8, y9, un e, p, List.mem_cons_self, g⟩
theorem out_F (O : OkR rs) (A : ∀ r ∈ rs, ActOk r) : ∀ n : Nat, n ≤ 1000 → OutP rs n (F_outline_of n)
  | 0, _ => ⟨fun rg h lab hv nd hl _ R _ => by
    have := List.length_pos_of_mem (R.1 : h ∈ rg)
    omega⟩
  | n + 1, hn => ⟨fun rg h lab hv nd hl h9 R hlab => by
    have IH := out_F O A n (by omega)
    have hh : h ∈ rg := R.1
    have vh := hv h hh
    -- is there a way back to the head
    have g := gx_I (goOn := false) (vs := [10]) (i := 10) (n := 11) (fi := bnd (vV 1) asS) (fe := vOp (gInU false) (vV 2) (vOp gIxU (vOp gIxU (vV 0) (vV 10)) (vC (.int 2)))) (ρ := [some (.fr (RL rs)), some (.fr (.lst (I rg))), some (.fr (.int h)), some (.fr (.lst (I lab))), none, none, none, none, none, none, none]) (ρ0 := [some (.fr (RL rs)), some (.fr (.lst (I rg))), some (.fr (.int h)), some (.fr (.lst (I lab))), none, none, none, none, none, none, none])
      (p := fun u => decide (h ∈ nxt rs u)) (xs := rg) (by simp) (by simp) rfl (fun u hu => by
        obtain ⟨r, hr, h1, h2⟩ := row_at (hv u hu)
        have a6 : L2.atI [r.act, .int r.cnt, .tup (I r.nx)] 2 = some (.tup (I r.nx)) := L2.atI_nat (j := 2) (by rfl)
        have i1 : ∀ {neg : Bool}, gInU neg (.int h) (.tup (I r.nx)) = some (.fr (.bl (if neg then !decide (h ∈ r.nx) else decide (h ∈ r.nx)))) := inU_I rfl
        rw [h2]
        refine ⟨_, [some (.fr (RL rs)), some (.fr (.lst (I rg))), some (.fr (.int h)), some (.fr (.lst (I lab))), none, none, none, none, none, none, some (.fr (.int u))], rfl, ?_, rfl⟩
        simp [RL, h1, rwD, a6, i1])
    generalize (rg.any fun u => decide (h ∈ nxt rs u)) = bb at g
    have e1 : s_outline_of_1 (F_outline_of n) [some (.fr (RL rs)), some (.fr (.lst (I rg))), some (.fr (.int h)), some (.fr (.lst (I lab))), none, none, none, none, none, none, none] = some (.nx [some (.fr (RL rs)), some (.fr (.lst (I rg))), some (.fr (.int h)), some (.fr (.lst (I lab))), some (.fr (.bl bb)), none, none, none, none, none, none]) := by
      unfold s_outline_of_1
      generalize vGx false 11 [10] (bnd (vV 1) asS) (gN 10) (Vl.ret true) (vOp (gInU false) (vV 2) (vOp gIxU (vOp gIxU (vV 0) (vV 10)) (vC (.int 2)))) = G at g
      simp at g
      simp [g]
    have e2 : ∃ inner : List Int, inner.length ≤ lab.length + 1 ∧ s_outline_of_2 (F_outline_of n) [some (.fr (RL rs)), some (.fr (.lst (I rg))), some (.fr (.int h)), some (.fr (.lst (I lab))), some (.fr (.bl bb)), none, none, none, none, none, none] = some (.nx [some (.fr (RL rs)), some (.fr (.lst (I rg))), some (.fr (.int h)), some (.fr (.lst (I lab))), some (.fr (.bl bb)), some (.fr (.lst (I inner))), none, none, none, none, none]) := by
      cases bb with
      | true =>
        have sz : lab.length + 1 ≤ 16777216 := by omega
        refine ⟨lab ++ [h], by simp, ?_⟩
        simp [s_outline_of_2, sz]
        simp [I]
      | false => exact ⟨lab, by omega, by simp [s_outline_of_2]⟩
    obtain ⟨inner, li, e2⟩ := e2
    obtain ⟨sh, l1, l2, hf⟩ := head_F O A vh inner
    have e3 : s_outline_of_3 (F_outline_of n) [some (.fr (RL rs)), some (.fr (.lst (I rg))), some (.fr (.int h)), some (.fr (.lst (I lab))), some (.fr (.bl bb)), some (.fr (.lst (I inner))), none, none, none, none, none] = some (.nx (oE rs rg h lab (some (.fr (.bl bb))) inner sh none none none none)) := by
      simp [s_outline_of_3, hf, oE]
    let Q : List Int := rg.filter fun v => decide (v ≠ h)
    have lq : Q.length ≤ rg.length := List.length_filter_le ..
    obtain ⟨ps, cf, c1, c2⟩ := components_F O (cs := Q) (fun v hv' => hv v (List.mem_filter.mp hv').1) (nd.filter _) (by omega)
    have eQ : (fun v => v ∈ Q) = fun v => v ∈ rg ∧ v ≠ h := funext fun v => propext (by simp [Q])
    have c1' : ∀ p ∈ ps, p.Nodup ∧ Scc (Ed rs) (fun v => v ∈ rg ∧ v ≠ h) (· ∈ p) := fun p hp => ⟨(c1 p hp).1, by rw [← eQ]; exact (c1 p hp).2⟩
    have q := lc_ev (fun i : Int => D.int i) (fun v => decide (v ≠ h)) (fun i : Int => D.int i) rg (n := 11) (vs := [10]) (fi := bnd (vV 1) asS) (gt := gN 10) (ft := bnd (vOp gNe (vV 10) (vV 2)) asB) (fe := vV 10)
      (ρ := oE rs rg h lab (some (.fr (.bl bb))) inner sh none none none none) (ρ1 := oE rs rg h lab (some (.fr (.bl bb))) inner sh none none none none) (ρ0 := oE rs rg h lab (some (.fr (.bl bb))) inner sh none none none none) (by simp [oE]; rfl) (by simp [oE]) rfl (fun v hv => by
        by_cases c1 : v = h
        · subst c1; simp [stepC, wipeE, oE]
        · have c2 : (v == h) = false := beq_false_of_ne c1
          simp [stepC, wipeE, oE, c1, c2]) (by omega)
    have e4 : (bnd (vCallG 2 F_components (vCons (vV 0) (vCons (vLc 11 [10] (bnd (vV 1) asS) (gN 10) (bnd (vOp gNe (vV 10) (vV 2)) asB) (vV 10)) (vNil)))) asS) (oE rs rg h lab (some (.fr (.bl bb))) inner sh none none none none) = some (.val (PL ps) (oE rs rg h lab (some (.fr (.bl bb))) inner sh none none none none)) := by
      have q2 : ((rg.filter fun v => decide (v ≠ h)).map fun i : Int => D.int i) = I Q := rfl
      rw [q2] at q
      generalize vLc 11 [10] (bnd (vV 1) asS) (gN 10) (bnd (vOp gNe (vV 10) (vV 2)) asB) (vV 10) = G at q
      generalize PL ps = pp at cf
      simp [oE] at q
      simp [oE, q, cf]
    have stv : St (Ed rs) (n + 1) (· ∈ rg) h ↔ ∀ p ∈ ps, Good rs n rg p := by
      constructor
      · intro H p hp
        exact H (· ∈ p) (c1' p hp).2
      · intro G C S
        obtain ⟨x, cx⟩ := S.ne
        have xq : x ∈ Q := by
          have := S.sub cx
          simpa [Q] using this
        obtain ⟨p, hp, xp⟩ := c2 x xq
        have eC : C = (· ∈ p) := funext fun v => propext (((S.rep cx).2 v).trans ((((c1' p hp).2).rep xp).2 v).symm)
        rw [eC]
        exact G p hp
    have e14 : ∀ {sh' : List D} {y7 y8 y9 : Option T}, sh'.length ≤ n + 3 → ∃ ds : List D, ds.length ≤ n + 1 + 2 ∧ (sSeq (sIf (bnd (vV 4) asT) (s_outline_of_13 (F_outline_of n)) (sNil)) (s_outline_of_14 (F_outline_of n))) (oE rs rg h lab (some (.fr (.bl bb))) inner sh' y7 y8 y9 none) = some (.ret (.fr (.tup [tagD "structured", .tup ds])) (oE rs rg h lab (some (.fr (.bl bb))) inner ds y7 y8 y9 none)) := fun {sh' y7 y8 y9} l => by
      cases bb with
      | true => exact ⟨[.tup [tagD "loop", .int h, .tup sh']], by simp, by simp [sSeq, onNx, s_outline_of_13, s_outline_of_14, oE]⟩
      | false => exact ⟨sh', by omega, by simp [sSeq, onNx, s_outline_of_14, oE]⟩
    have fin : ∀ {t : D} {sh' : List D} {y7 y8 y9 : Option T}, (sSeq (s_outline_of_4 (F_outline_of n)) (sSeq (sIf (bnd (vV 4) asT) (s_outline_of_13 (F_outline_of n)) (sNil)) (s_outline_of_14 (F_outline_of n)))) (oE rs rg h lab (some (.fr (.bl bb))) inner sh none none none none) = some (.ret (.fr t) (oE rs rg h lab (some (.fr (.bl bb))) inner sh' y7 y8 y9 none)) → F_outline_of (n + 1) [.fr (RL rs), .fr (.lst (I rg)), .fr (.int h), .fr (.lst (I lab))] = some (.ret (.fr t) [.fr (RL rs), .fr (.lst (I rg)), .fr (.int h), .fr (.lst (I lab))]) := fun {t sh' y7 y8 y9} e =>
      body_ret (g := g_outline_of (F_outline_of n)) rfl ((seq_nx e1).trans ((seq_nx e2).trans ((seq_nx e3).trans e))) rfl rfl
    rcases parts_F O IH hv hl h9 nd R (lab := lab) (inner := inner) (by omega) (by omega) (x4 := some (.fr (.bl bb))) (x10 := none) (ps := ps) (sh := sh) (x7 := none) (x8 := none) (x9 := none) c1' (by omega) with ⟨sh', y7, y8, y9, lp, l, g⟩ | ⟨a, b, sh', y7, y8, y9, lp, p, hp, g⟩
    · obtain ⟨ds, dl, e5⟩ := e14 (y7 := y7) (y8 := y8) (y9 := y9) l
      have s4 : s_outline_of_4 (F_outline_of n) (oE rs rg h lab (some (.fr (.bl bb))) inner sh none none none none) = _ := (for_val e4).trans lp
      exact ⟨_, fin ((seq_nx s4).trans e5), .inl ⟨⟨ds, dl, rfl⟩, stv.mpr g⟩⟩
    · have s4 : s_outline_of_4 (F_outline_of n) (oE rs rg h lab (some (.fr (.bl bb))) inner sh none none none none) = _ := (for_val e4).trans lp
      exact ⟨_, fin (seq_ret s4), .inr ⟨⟨a, b, rfl⟩, fun H => g (stv.mp H p hp)⟩⟩⟩
def allI (rs : List Rw) : List Int := (List.range rs.length).map fun (i : Nat) => (i : Int)
theorem allI_mem {v : Int} : v ∈ allI rs ↔ Vd rs v := by
  unfold allI Vd
  simp only [List.mem_map, List.mem_range]
  constructor
  · rintro ⟨n, h, rfl⟩; omega
  · intro h
    exact ⟨v.toNat, by omega, by omega⟩
theorem allI_len : (allI rs).length = rs.length := by simp [allI]
/-- the rows that can be reached -/
def RP (rs : List Rw) (s : Int) : Int → Prop := Rch (Ed rs) (Vd rs) s
theorem RP.vd (O : OkR rs) {s v : Int} (hs : Vd rs s) (h : RP rs s v) : Vd rs v := (Rch.mem h).elim (fun z => z ▸ hs) id
theorem RP.rooted (O : OkR rs) {s : Int} (hs : Vd rs s) : Rooted (Ed rs) (RP rs s) s := by
  refine ⟨.refl, fun v h => ?_⟩
  have key : ∀ w, Rch (Ed rs) (Vd rs) s w → Rch (Ed rs) (RP rs s) s w := by
    intro w r
    induction r with
    | refl => exact .refl
    | step r e p ih => exact ih.step e (r.step e p)
  exact key v h
theorem range_D : ((List.range rs.length).map fun (i : Nat) => D.int i) = I (allI rs) := by simp [I, allI]
theorem reach_F (O : OkR rs) {s : Int} (hs : Vd rs s) : ∃ l : List Int, F_reachable [.fr (RL rs), .fr (.int s)] = some (.ret (.lst (I l)) [.fr (RL rs), .fr (.int s)]) ∧ l.Nodup ∧ l.length ≤ rs.length ∧ ∀ v, v ∈ l ↔ RP rs s v := by
  have few := O.few
  obtain ⟨l, f, nd, m⟩ := spread_F O (cs := allI rs) (fun v h => allI_mem.mp h) hs (by rw [allI_len]; omega)
  have eA : (fun v => v ∈ allI rs) = Vd rs := funext fun v => propext allI_mem
  have m2 : ∀ v, v ∈ l ↔ RP rs s v := fun v => by rw [m v, eA]; exact Iff.rfl
  refine ⟨l, body_ret (w := .nw (.lst (I l))) (ρ := [some (.fr (RL rs)), some (.fr (.int s))]) rfl ?_ rfl rfl, nd, ?_, m2⟩
  · show g_reachable [some (.fr (RL rs)), some (.fr (.int s))] = _
    have few2 : (rs.length : Int) ≤ 1000000 := by omega
    have rd := range_D (rs := rs)
    simp [g_reachable, s_reachable_1, vListRg, kListRg, few2, rd, f, RL]
  · have := nodup_le (m := allI rs) nd fun v hv => allI_mem.mpr ((m2 v).mp hv |>.vd O hs)
    rwa [allI_len] at this
/-- outline: structured exactly if .. -/
theorem outline_F (O : OkR rs) (A : ∀ r ∈ rs, ActOk r) {s : Int} (hs : Vd rs s) : ∃ (l : List Int) (t : D), F_outline [.fr (RL rs), .fr (.int s)] = some (.ret (.fr t) [.fr (RL rs), .fr (.int s)]) ∧ (fun v => v ∈ l) = RP rs s ∧ OutD rs 130 l s t := by
  have few := O.few
  obtain ⟨l, rf, nd, ll, m⟩ := reach_F O hs
  have el : (fun v => v ∈ l) = RP rs s := funext fun v => propext (m v)
  have R : Rooted (Ed rs) (· ∈ l) s := by
    show Rooted (Ed rs) (fun v => v ∈ l) s
    rw [el]
    exact RP.rooted O hs
  obtain ⟨t, f, T⟩ := (out_F O A 130 (by decide)).p l s [] (fun v hv => ((m v).mp hv).vd O hs) nd (by omega) (by omega) R (by simp)
  refine ⟨l, t, body_ret (w := .fr t) (ρ := [some (.fr (RL rs)), some (.fr (.int s))]) rfl ?_ rfl rfl, el, T⟩
  show g_outline [some (.fr (RL rs)), some (.fr (.int s))] = _
  have f : F_outline_of 130 [.fr (RL rs), .fr (.lst (I l)), .fr (.int s), .fr (.lst [])] = some (.ret (.fr t) [.fr (RL rs), .fr (.lst (I l)), .fr (.int s), .fr (.lst [])]) := f
  simp [g_outline, s_outline_1, rf, f]
end
end Wk

namespace Wk
open PySem PySem.Spec PyProof.Rows L2 He Vl Gr
section
variable {rs : List Rw} {cs : List Int} {s : Int}
theorem loop_ix {gt : FT} {f : FS} (R : Nat → Vl.Env → Prop) {n : Nat} (h : ∀ k, k < n → ∀ ρ, R k ρ → ∃ ρ1 ρ2, gt (.int (k : Nat)) ρ = some ρ1 ∧ f ρ1 = some (.nx ρ2) ∧ R (k + 1) ρ2) {ρ : Vl.Env} (r : R 0 ρ) : ∃ ρ', loopD gt f ((List.range n).map fun (k : Nat) => D.int k) ρ = some (.nx ρ') ∧ R n ρ' := by
  have key : ∀ (m j : Nat) (ρ : Vl.Env), j + m = n → R j ρ → ∃ ρ', loopD gt f ((List.range' j m).map fun (k : Nat) => D.int k) ρ = some (.nx ρ') ∧ R n ρ' := by
    intro m
    induction m with
    | zero => exact fun j ρ e r => ⟨ρ, rfl, by rw [← e]; exact r⟩
    | succ m ih =>
      intro j ρ e r
      obtain ⟨ρ1, ρ2, h1, h2, h3⟩ := h j (by omega) ρ r
      obtain ⟨ρ', h4, h5⟩ := ih (j + 1) ρ2 (by omega) h3
      refine ⟨ρ', ?_, h5⟩
      rw [List.range'_succ, List.map_cons]
      unfold loopD
      rw [h1]
      simp only [h2]
      exact h4
  rw [List.range_eq_range']
  exact key n 0 ρ (by omega) r
/-! ### the law's own reach -/
theorem Sp.skip {k : Nat} {od : List Int} (h : Sp rs cs s k od) (hk : od.length ≤ k) : Sp rs cs s (k + 1) od :=
  ⟨h.nd, h.sub, h.way, fun j u hj hu => by
    have := (List.getElem?_eq_some_iff.mp hu).1
    exact h.cl j u (by omega) hu, h.st⟩
theorem lreach_F (O : OkR rs) (hs : Vd rs s) : ∃ l : List Int, F_law_reach [.fr (RL rs), .fr (.lst (I (allI rs))), .fr (.int s)] = some (.ret (.lst (I l)) [.fr (RL rs), .fr (.lst (I (allI rs))), .fr (.int s)]) ∧ l.Nodup ∧ l.length ≤ rs.length ∧ ∀ v, v ∈ l ↔ RP rs s v := by
  have few := O.few
  have S0 : Sp rs (allI rs) s 0 [s] := ⟨by simp, fun v hv => .inl (by simpa using hv), fun v hv => by simp at hv; rw [hv]; exact .refl, fun j u hj => by omega, by simp⟩
  have hl : ∀ {k od}, Sp rs (allI rs) s k od → od.length ≤ rs.length := fun {k od} S => by
    have := nodup_le (m := allI rs) S.nd fun v hv => (S.sub v hv).elim (fun z => z ▸ allI_mem.mpr hs) id
    rwa [allI_len] at this
  let R : Nat → Vl.Env → Prop := fun k ρ => ∃ od x4 x5, ρ = [some (.fr (RL rs)), some (.fr (.lst (I (allI rs)))), some (.fr (.int s)), some (.lst (I od)), x4, x5] ∧ Sp rs (allI rs) s k od
  obtain ⟨ρ', lp, od, x4, x5, e, S⟩ := loop_ix (gt := gN 4) (f := s_law_reach_3) (n := rs.length) R (fun k hk ρ r => by
    obtain ⟨od, x4, x5, e, S⟩ := r
    subst e
    have len := hl S
    refine ⟨[some (.fr (RL rs)), some (.fr (.lst (I (allI rs)))), some (.fr (.int s)), some (.lst (I od)), some (.fr (.int k)), x5], ?_⟩
    by_cases c : k < od.length
    · have q := List.getElem?_eq_getElem c
      generalize od[k] = e at q
      have ve : Vd rs e := (S.sub e (List.mem_of_getElem? q)).elim (fun z => z ▸ hs) (fun z => allI_mem.mp z)
      obtain ⟨r, hr, h1, h2⟩ := row_at ve
      have a5 : L2.atI (I od) (k : Int) = some (.int e) := L2.atI_nat (by rw [I_get, q]; rfl)
      have a6 : L2.atI [r.act, .int r.cnt, .tup (I r.nx)] 2 = some (.tup (I r.nx)) := L2.atI_nat (j := 2) (by rfl)
      have ar := O.ar r hr
      have S' := S.next q
      rw [h2] at S'
      obtain ⟨y5, lp⟩ := sp_add (t0 := some (.fr (RL rs))) (t2 := some (.fr (.int s))) (x4 := some (.fr (.int k))) (cs := allI rs) (by rw [allI_len]; omega) (gs := r.nx) (od := od) (x5 := x5) (by omega)
      refine ⟨[some (.fr (RL rs)), some (.fr (.lst (I (allI rs)))), some (.fr (.int s)), some (.lst (I (addC (allI rs) od r.nx))), some (.fr (.int k)), y5], rfl, ?_, _, _, _, rfl, S'⟩
      have s1 : s_law_reach_4 [some (.fr (RL rs)), some (.fr (.lst (I (allI rs)))), some (.fr (.int s)), some (.lst (I od)), some (.fr (.int k)), x5] = some (.nx [some (.fr (RL rs)), some (.fr (.lst (I (allI rs)))), some (.fr (.int s)), some (.lst (I (addC (allI rs) od r.nx))), some (.fr (.int k)), y5]) := by
        refine (for_val ?_).trans lp
        simp [RL, a5, h1, rwD, a6]
      unfold s_law_reach_3
      generalize s_law_reach_4 = G at s1
      simp [s1, c]
    · exact ⟨[some (.fr (RL rs)), some (.fr (.lst (I (allI rs)))), some (.fr (.int s)), some (.lst (I od)), some (.fr (.int k)), x5], rfl, by simp [s_law_reach_3, c], od, some (.fr (.int k)), x5, rfl, S.skip (by omega)⟩) (ρ := [some (.fr (RL rs)), some (.fr (.lst (I (allI rs)))), some (.fr (.int s)), some (.lst (I [s])), none, none]) ⟨[s], none, none, rfl, S0⟩
  have ln := hl S
  have eA : (fun v => v ∈ allI rs) = Vd rs := funext fun v => propext allI_mem
  refine ⟨od, body_ret (w := .al 3) (ρ := ρ') rfl ?_ (by subst e; rfl) (by subst e; rfl), S.nd, ln, fun v => by
    rw [S.done ln v, eA]; exact Iff.rfl⟩
  show g_law_reach [some (.fr (RL rs)), some (.fr (.lst (I (allI rs)))), some (.fr (.int s)), none, none, none] = _
  have d := dR1_int (i := (rs.length : Nat)) (by omega) (by omega)
  simp only [Int.toNat_natCast] at d
  have s2 : s_law_reach_2 [some (.fr (RL rs)), some (.fr (.lst (I (allI rs)))), some (.fr (.int s)), some (.lst (I [s])), none, none] = some (.nx ρ') := (for_val (by simp [RL, d])).trans lp
  unfold g_law_reach
  rw [seq_nx (ρ' := [some (.fr (RL rs)), some (.fr (.lst (I (allI rs)))), some (.fr (.int s)), some (.lst (I [s])), none, none]) (by simp [I]), seq_nx s2]
  subst e
  simp
/-! ### the law's edges -/
def dK (ks : List Int) (f : Int → List Int) : List (L2.Key × D) := ks.map fun a => ((.inl a : L2.Key), D.lst (I (f a)))
theorem dK_get {ks : List Int} {f : Int → List Int} {v : Int} (h : v ∈ ks) : gD (dK ks f) (.inl v) = some (.lst (I (f v))) := gD_map (f := fun a => D.lst (I (f a))) h
theorem dK_len {ks : List Int} {f : Int → List Int} : (dK ks f).length = ks.length := by simp [dK]
theorem dK_snoc {ks : List Int} {f : Int → List Int} {v : Int} (h : v ∉ ks) : pD (dK ks f) (.inl v) (.lst (I (f v))) = dK (ks ++ [v]) f := by
  rw [pD_new]
  · simp [dK]
  · simp only [dK, List.map_map, List.mem_map, Function.comp, not_exists, not_and]
    intro a ha e
    injection e with e
    exact h (e ▸ ha)
theorem dK_set {ks : List Int} {f : Int → List Int} {v : Int} {l : List Int} (h : v ∈ ks) : pD (dK ks f) (.inl v) (.lst (I l)) = dK ks fun u => if u = v then l else f u := by
  have : ((dK ks f).any fun kv => decide (kv.1 = .inl v)) = true := List.any_eq_true.mpr ⟨_, List.mem_map_of_mem h, by simp⟩
  unfold pD
  rw [if_pos this]
  unfold dK
  rw [List.map_map]
  refine List.map_congr_left fun a _ => ?_
  by_cases e : a = v
  · subst e; simp
  · have : ¬ ((.inl a : L2.Key) = .inl v) := fun z => e (by injection z)
    simp [this, e]
theorem dK_cong {ks : List Int} {f g : Int → List Int} (h : ∀ v ∈ ks, f v = g v) : dK ks f = dK ks g := List.map_congr_left fun a ha => by rw [h a ha]
theorem intsD_I (l : List Int) : intsD (I l) = some l := by
  induction l with
  | nil => rfl
  | cons i r ih => show (intsD (I r)).map (i :: ·) = _; rw [ih]; rfl
def f0 (rs : List Rw) (v : Int) : List Int := srtU ((nxt rs v).filter fun g => decide (g ≠ v))
theorem edges_loop (O : OkR rs) : ∀ {ch ks : List Int} {x3 : Option T}, (∀ v ∈ ch, Vd rs v) → (ks ++ ch).Nodup → ks.length + ch.length ≤ 1000 → ∃ y3, loopD (gN 3) s_law_edges_3 (I ch) [some (.fr (RL rs)), some (.fr (.lst (I cs))), some (.dK (dK ks (f0 rs))), x3, none] = some (.nx [some (.fr (RL rs)), some (.fr (.lst (I cs))), some (.dK (dK (ks ++ ch) (f0 rs))), y3, none])
  | [], ks, x3, _, _, _ => ⟨x3, by simp [loopD, I]⟩
  | v :: ch, ks, x3, hv, nd, hl => by
    have vv := hv v List.mem_cons_self
    obtain ⟨r, hr, h1, h2⟩ := row_at vv
    have a6 : L2.atI [r.act, .int r.cnt, .tup (I r.nx)] 2 = some (.tup (I r.nx)) := L2.atI_nat (j := 2) (by rfl)
    have ar := O.ar r hr
    have nk : v ∉ ks := fun z => by
      rw [List.nodup_append] at nd
      exact nd.2.2 v z v List.mem_cons_self rfl
    simp only [List.length_cons] at hl
    have q := lc_ev (fun i : Int => D.int i) (fun g => decide (g ≠ v)) (fun i : Int => D.int i) r.nx (n := 5) (vs := [4]) (fi := bnd (vOp gIxU (vOp gIxU (vV 0) (vV 3)) (vC (.int 2))) asS) (gt := gN 4) (ft := bnd (vOp gNe (vV 4) (vV 3)) asB) (fe := vV 4)
      (ρ := [some (.fr (RL rs)), some (.fr (.lst (I cs))), some (.dK (dK ks (f0 rs))), some (.fr (.int v)), none]) (ρ1 := [some (.fr (RL rs)), some (.fr (.lst (I cs))), some (.dK (dK ks (f0 rs))), some (.fr (.int v)), none]) (ρ0 := [some (.fr (RL rs)), some (.fr (.lst (I cs))), some (.dK (dK ks (f0 rs))), some (.fr (.int v)), none]) (by simp [RL, h1, rwD, a6]; rfl) (by simp) rfl (fun g hg => by
        by_cases c1 : g = v
        · subst c1; simp [stepC, wipeE]
        · have c2 : (g == v) = false := beq_false_of_ne c1
          simp [stepC, wipeE, c1, c2]) (by omega)
    have fl : (r.nx.filter fun g => decide (g ≠ v)).length + 1 < 4096 := by
      have := List.length_filter_le (fun g => decide (g ≠ v)) r.nx
      omega
    have qi : ((r.nx.filter fun g => decide (g ≠ v)).map fun i : Int => D.int i) = I (r.nx.filter fun g => decide (g ≠ v)) := rfl
    rw [qi] at q
    have ii := intsD_I (r.nx.filter fun g => decide (g ≠ v))
    have ef : f0 rs v = srtU (r.nx.filter fun g => decide (g ≠ v)) := by unfold f0; rw [h2]
    have sn := dK_snoc (f := f0 rs) nk
    rw [ef] at sn
    have kl := dK_len (ks := ks) (f := f0 rs)
    have hz : (dK ks (f0 rs)).length < 16000000 := by omega
    have st : s_law_edges_3 [some (.fr (RL rs)), some (.fr (.lst (I cs))), some (.dK (dK ks (f0 rs))), some (.fr (.int v)), none] = some (.nx [some (.fr (RL rs)), some (.fr (.lst (I cs))), some (.dK (dK (ks ++ [v]) (f0 rs))), some (.fr (.int v)), none]) := by
      unfold s_law_edges_3
      generalize vLc 5 [4] (bnd (vOp gIxU (vOp gIxU (vV 0) (vV 3)) (vC (.int 2))) asS) (gN 4) (bnd (vOp gNe (vV 4) (vV 3)) asB) (vV 4) = G at q
      generalize (r.nx.filter fun g => decide (g ≠ v)) = ns at q fl ii sn
      have is : ((srtU ns).map .int) = I (srtU ns) := rfl
      simp [vSrtS, kSrtS, q, seqD, itemsD, ii, fl, is, hz, sn]
    obtain ⟨y3, ih⟩ := edges_loop O (ch := ch) (ks := ks ++ [v]) (x3 := some (.fr (.int v))) (fun w hw => hv w (List.mem_cons_of_mem _ hw)) (by simpa using nd) (by simp; omega)
    refine ⟨y3, ?_⟩
    show loopD (gN 3) s_law_edges_3 (.int v :: I ch) _ = _
    unfold loopD
    simp [st]
    rw [ih]
    simp
theorem edges_F (O : OkR rs) (hv : ∀ v ∈ cs, Vd rs v) (nd : cs.Nodup) (hl : cs.length ≤ 900) : F_law_edges [.fr (RL rs), .fr (.lst (I cs))] = some (.ret (.dK (dK cs (f0 rs))) [.fr (RL rs), .fr (.lst (I cs))]) := by
  obtain ⟨y3, lp⟩ := edges_loop O (cs := cs) (ch := cs) (ks := []) (x3 := none) hv (by simpa using nd) (by simp; omega)
  refine body_ret (w := .al 2) (ρ := [some (.fr (RL rs)), some (.fr (.lst (I cs))), some (.dK (dK cs (f0 rs))), y3, none]) rfl ?_ rfl rfl
  show g_law_edges [some (.fr (RL rs)), some (.fr (.lst (I cs))), none, none, none] = _
  unfold g_law_edges
  have lp' : sFor (bnd (vV 1) asS) (gN 3) (s_law_edges_3) [some (.fr (RL rs)), some (.fr (.lst (I cs))), some (.dK (dK [] (f0 rs))), none, none] = some (.nx [some (.fr (RL rs)), some (.fr (.lst (I cs))), some (.dK (dK cs (f0 rs))), y3, none]) := (for_val (by simp)).trans lp
  rw [seq_nx (ρ' := [some (.fr (RL rs)), some (.fr (.lst (I cs))), some (.dK (dK [] (f0 rs))), none, none]) (by simp [dK]), seq_nx lp']
  simp
end
end Wk

namespace Wk
open PySem PySem.Spec PyProof.Rows L2 He Vl Gr
section
variable {rs : List Rw} {cs ks : List Int} {s a o : Int} {f g : Int → List Int}
theorem keysL_dK : keysL (dK ks f) = I ks := by simp [keysL, dK, I, Function.comp_def]; intro _ _; rfl
theorem cls_I : ∀ l : List Int, D.cls (I l) = true
  | [] => rfl
  | _ :: l => by show (true && D.cls (I l)) = true; rw [cls_I l]; rfl
theorem clk_dK : ∀ ks : List Int, D.clk (dK ks f) = true
  | [] => rfl
  | v :: ks => by show (D.cls (I (f v)) && D.clk (dK ks f)) = true; rw [clk_dK ks, cls_I]; rfl
theorem cl_lst {l : List Int} : T.cl (.fr (.lst (I l))) = true := cls_I l
theorem thaw_nx {i : Nat} {f : FS} {ρ ρ' : Vl.Env} {kvs : List (L2.Key × D)} (h0 : ρ[i]? = some (some (.dK kvs))) (h1 : f (ρ.set i (some (.fr (.dK kvs)))) = some (.nx ρ')) (h2 : clE (ρ'.set i none) = true) : sThaw i f ρ = some (.nx (ρ'.set i (some (.dK kvs)))) := by
  unfold sThaw
  rw [h0]
  simp only [h1, h2, if_true]
/-! ### _law_merge -/
def nwL (f : Int → List Int) (a o : Int) : List Int := (srtU (f a ++ f o)).filter fun g => decide (g ≠ a ∧ g ≠ o)
def mgF (f : Int → List Int) (a o : Int) : Int → List Int := fun u => if u = a then nwL f a o else f u
def noO (o : Int) (ks : List Int) : List Int := ks.filter fun v => decide (v ≠ o)
theorem merge_loop {x3 x6 : Option T} (hl : ks.length ≤ 1000) : ∀ {ds ks1 : List Int} {x5 : Option T}, (∀ v ∈ ds, v ∈ ks) → (ks1 ++ ds).Nodup → ks1.length + ds.length ≤ 1000 → ∃ y5, loopD (gN 5) s_law_merge_5 (I ds) [some (.fr (.dK (dK ks g))), some (.fr (.int a)), some (.fr (.int o)), x3, some (.dK (dK (noO o ks1) g)), x5, x6] = some (.nx [some (.fr (.dK (dK ks g))), some (.fr (.int a)), some (.fr (.int o)), x3, some (.dK (dK (noO o (ks1 ++ ds)) g)), y5, x6]) ∧ (x5 = none ∨ (∃ i, x5 = some (.fr (.int i))) → y5 = none ∨ ∃ i, y5 = some (.fr (.int i)))
  | [], ks1, x5, _, _, _ => ⟨x5, by simp [loopD, I], id⟩
  | v :: ds, ks1, x5, hv, nd, hb => by
    have d1 := dK_get (f := g) (hv v List.mem_cons_self)
    simp only [List.length_cons] at hb
    have st : s_law_merge_5 [some (.fr (.dK (dK ks g))), some (.fr (.int a)), some (.fr (.int o)), x3, some (.dK (dK (noO o ks1) g)), some (.fr (.int v)), x6] = some (.nx [some (.fr (.dK (dK ks g))), some (.fr (.int a)), some (.fr (.int o)), x3, some (.dK (dK (noO o (ks1 ++ [v])) g)), some (.fr (.int v)), x6]) := by
      by_cases c : v = o
      · have e : noO o (ks1 ++ [v]) = noO o ks1 := by simp [noO, c]
        rw [e]
        subst c
        simp [s_law_merge_5]
      · have e : noO o (ks1 ++ [v]) = noO o ks1 ++ [v] := by simp [noO, c]
        have c2 : (v == o) = false := beq_false_of_ne c
        have nk : v ∉ noO o ks1 := fun z => by
          rw [List.nodup_append] at nd
          exact nd.2.2 v (List.mem_filter.mp z).1 v List.mem_cons_self rfl
        have sn := dK_snoc (f := g) nk
        have kl : (dK (noO o ks1) g).length < 16000000 := by
          rw [dK_len]
          have := List.length_filter_le (fun v => decide (v ≠ o)) ks1
          show (ks1.filter fun v => decide (v ≠ o)).length < _
          omega
        rw [e]
        generalize dK ks g = kv at d1
        simp [s_law_merge_5, c, c2, d1, kl, sn]
    obtain ⟨y5, ih, hy⟩ := merge_loop hl (ds := ds) (ks1 := ks1 ++ [v]) (x5 := some (.fr (.int v))) (fun w hw => hv w (List.mem_cons_of_mem _ hw)) (by simpa using nd) (by simp; omega)
    refine ⟨y5, ?_, fun _ => hy (.inr ⟨v, rfl⟩)⟩
    show loopD (gN 5) s_law_merge_5 (.int v :: I ds) _ = _
    unfold loopD
    simp [st]
    rw [ih]
    simp
theorem merge_F (nd : ks.Nodup) (hl : ks.length ≤ 900) (ha : a ∈ ks) (ho : o ∈ ks) (la : (f a).length ≤ 900) (lo : (f o).length ≤ 900) : F_law_merge [.dK (dK ks f), .fr (.int a), .fr (.int o)] = some (.ret (.dK (dK (noO o ks) (mgF f a o))) [.dK (dK ks (mgF f a o)), .fr (.int a), .fr (.int o)]) := by
  have d1 := dK_get (f := f) ha
  have d2 := dK_get (f := f) ho
  have e1 : s_law_merge_1 [some (.dK (dK ks f)), some (.fr (.int a)), some (.fr (.int o)), none, none, none, none] = some (.nx [some (.dK (dK ks f)), some (.fr (.int a)), some (.fr (.int o)), some (.fr (.lst (I (srtU (f a ++ f o))))), none, none, none]) := by
    have sz : (f a).length + (f o).length ≤ 16777216 := by omega
    have few : (f a).length + (f o).length + 1 < 4096 := by omega
    have app : I (f a) ++ I (f o) = I (f a ++ f o) := by simp [I]
    have ii := intsD_I (f a ++ f o)
    have is : ((srtU (f a ++ f o)).map .int) = I (srtU (f a ++ f o)) := rfl
    generalize dK ks f = kv at d1 d2
    simp [s_law_merge_1, vSrtS, kSrtS, d1, d2, sz, seqD, itemsD, app, ii, few, is]
  have q := lc_ev (fun i : Int => D.int i) (fun g => decide (g ≠ a ∧ g ≠ o)) (fun i : Int => D.int i) (srtU (f a ++ f o)) (n := 7) (vs := [6]) (fi := bnd (vV 3) asS) (gt := gN 6) (ft := vAnd (bnd (vOp gNe (vV 6) (vV 1)) asB) (bnd (vOp gNe (vV 6) (vV 2)) asB)) (fe := vV 6)
    (ρ := [some (.dK (dK ks f)), some (.fr (.int a)), some (.fr (.int o)), some (.fr (.lst (I (srtU (f a ++ f o))))), none, none, none]) (ρ1 := [some (.dK (dK ks f)), some (.fr (.int a)), some (.fr (.int o)), some (.fr (.lst (I (srtU (f a ++ f o))))), none, none, none]) (ρ0 := [some (.dK (dK ks f)), some (.fr (.int a)), some (.fr (.int o)), some (.fr (.lst (I (srtU (f a ++ f o))))), none, none, none]) (by simp; rfl) (by simp) rfl (fun g hg => by
      by_cases c1 : g = a
      · subst c1; simp [stepC, wipeE]
      · have b1 : (g == a) = false := beq_false_of_ne c1
        by_cases c2 : g = o
        · subst c2; simp [stepC, wipeE, c1, b1]
        · have b2 : (g == o) = false := beq_false_of_ne c2
          simp [stepC, wipeE, c1, b1, c2, b2]) (by
      have := srtU_len (l := f a ++ f o)
      rw [List.length_append] at this
      omega)
  have e2 : s_law_merge_2 [some (.dK (dK ks f)), some (.fr (.int a)), some (.fr (.int o)), some (.fr (.lst (I (srtU (f a ++ f o))))), none, none, none] = some (.nx [some (.dK (dK ks (mgF f a o))), some (.fr (.int a)), some (.fr (.int o)), some (.fr (.lst (I (srtU (f a ++ f o))))), none, none, none]) := by
    have qi : (((srtU (f a ++ f o)).filter fun g => decide (g ≠ a ∧ g ≠ o)).map fun i : Int => D.int i) = I (nwL f a o) := rfl
    rw [qi] at q
    have sn := dK_set (f := f) (l := nwL f a o) ha
    have kl : (dK ks f).length < 16000000 := by rw [dK_len]; omega
    unfold s_law_merge_2
    generalize vLc 7 [6] (bnd (vV 3) asS) (gN 6) (vAnd (bnd (vOp gNe (vV 6) (vV 1)) asB) (bnd (vOp gNe (vV 6) (vV 2)) asB)) (vV 6) = G at q
    simp [q, kl, sn]
    rfl
  obtain ⟨y5, lp, hy⟩ := merge_loop (a := a) (o := o) (g := mgF f a o) (x3 := some (.fr (.lst (I (srtU (f a ++ f o)))))) (x6 := none) (ks := ks) (by omega) (ds := ks) (ks1 := []) (x5 := none) (fun v h => h) (by simpa using nd) (by simp; omega)
  have e4 : (sThaw 0 (sForK 0 (gN 5) (s_law_merge_5))) [some (.dK (dK ks (mgF f a o))), some (.fr (.int a)), some (.fr (.int o)), some (.fr (.lst (I (srtU (f a ++ f o))))), some (.dK (dK (noO o []) (mgF f a o))), none, none] = some (.nx [some (.dK (dK ks (mgF f a o))), some (.fr (.int a)), some (.fr (.int o)), some (.fr (.lst (I (srtU (f a ++ f o))))), some (.dK (dK (noO o ks) (mgF f a o))), y5, none]) := by
    have lp2 : sForK 0 (gN 5) s_law_merge_5 [some (.fr (.dK (dK ks (mgF f a o)))), some (.fr (.int a)), some (.fr (.int o)), some (.fr (.lst (I (srtU (f a ++ f o))))), some (.dK (dK (noO o []) (mgF f a o))), none, none] = some (.nx [some (.fr (.dK (dK ks (mgF f a o)))), some (.fr (.int a)), some (.fr (.int o)), some (.fr (.lst (I (srtU (f a ++ f o))))), some (.dK (dK (noO o ks) (mgF f a o))), y5, none]) := by
      show noX (loopD (gN 5) s_law_merge_5 (keysL (dK ks (mgF f a o))) _) = _
      rw [keysL_dK, lp]
      rfl
    have cl : clE [none, some (.fr (.int a)), some (.fr (.int o)), some (.fr (.lst (I (srtU (f a ++ f o))))), some (.dK (dK (noO o ks) (mgF f a o))), y5, none] = true := by
      rcases hy (.inl rfl) with rfl | ⟨i, rfl⟩ <;> simp [clE, T.cl, D.cl, cls_I, clk_dK]
    exact thaw_nx (i := 0) (ρ := [some (.dK (dK ks (mgF f a o))), some (.fr (.int a)), some (.fr (.int o)), some (.fr (.lst (I (srtU (f a ++ f o))))), some (.dK (dK (noO o []) (mgF f a o))), none, none]) (ρ' := [some (.fr (.dK (dK ks (mgF f a o)))), some (.fr (.int a)), some (.fr (.int o)), some (.fr (.lst (I (srtU (f a ++ f o))))), some (.dK (dK (noO o ks) (mgF f a o))), y5, none]) (kvs := dK ks (mgF f a o)) rfl lp2 cl
  refine body_ret (w := .al 4) (ρ := [some (.dK (dK ks (mgF f a o))), some (.fr (.int a)), some (.fr (.int o)), some (.fr (.lst (I (srtU (f a ++ f o))))), some (.dK (dK (noO o ks) (mgF f a o))), y5, none]) rfl ?_ rfl rfl
  show g_law_merge [some (.dK (dK ks f)), some (.fr (.int a)), some (.fr (.int o)), none, none, none, none] = _
  unfold g_law_merge
  rw [seq_nx e1, seq_nx e2, seq_nx (ρ' := [some (.dK (dK ks (mgF f a o))), some (.fr (.int a)), some (.fr (.int o)), some (.fr (.lst (I (srtU (f a ++ f o))))), some (.dK (dK (noO o []) (mgF f a o))), none, none]) (by simp [noO, dK]), seq_nx e4]
  simp
end
end Wk

namespace Wk
open PySem PySem.Spec PyProof.Rows L2 He Vl Gr
section
variable {rs : List Rw} {cs ks : List Int} {s a o : Int} {f g : Int → List Int}
/-! ### the law's graph -/
abbrev LE (f : Int → List Int) (u v : Int) : Prop := v ∈ f u
def preds (ks : List Int) (f : Int → List Int) (o : Int) : List Int := ks.filter fun u => decide (o ∈ f u)
theorem preds_mem {u : Int} : u ∈ preds ks f o ↔ u ∈ ks ∧ o ∈ f u := by simp [preds]
structure Rg (rs : List Rw) (s : Int) (ks : List Int) (f : Int → List Int) : Prop where
  nd : ks.Nodup
  few : ks.length ≤ 120
  sl : ∀ u ∈ ks, u ∉ f u
  cl : ∀ u ∈ ks, ∀ v ∈ f u, v ∈ ks
  ln : ∀ u ∈ ks, (f u).Nodup
  rt : Rooted (LE f) (· ∈ ks) s
  st : St (LE f) 130 (· ∈ ks) s ↔ St (Ed rs) 130 (RP rs s) s
theorem Rg.len (h : Rg rs s ks f) {u : Int} (hu : u ∈ ks) : (f u).length ≤ 120 := Nat.le_trans (nodup_le (h.ln u hu) (h.cl u hu)) h.few
theorem lt_nd {l : List Int} (h : l.Pairwise (· < ·)) : l.Nodup := h.imp fun {a b} q e => by subst e; omega
theorem noO_eq : (fun v => v ∈ noO o ks) = fun v => v ∈ ks ∧ v ≠ o := funext fun v => propext (by simp [noO])
theorem Rg.step (h : Rg rs s ks f) (ho : o ∈ ks) (os : o ≠ s) (hp : preds ks f o = [a]) : a ∈ ks ∧ Rg rs s (noO o ks) (mgF f a o) ∧ (noO o ks).length + 1 = ks.length := by
  obtain ⟨ha, ao⟩ := preds_mem.mp (show a ∈ preds ks f o by rw [hp]; simp)
  have un : ∀ u ∈ ks, o ∈ f u → u = a := fun u hu q => by
    have := preds_mem.mpr ⟨hu, q⟩
    rw [hp] at this
    simpa using this
  have ne : a ≠ o := fun z => h.sl a ha (by rw [← z] at ao; exact ao)
  have sub : ∀ v, v ∈ noO o ks ↔ v ∈ ks ∧ v ≠ o := fun v => by simp [noO]
  have nw : ∀ v, v ∈ nwL f a o ↔ (v ∈ f a ∨ v ∈ f o) ∧ v ≠ a ∧ v ≠ o := fun v => by
    unfold nwL
    rw [List.mem_filter, srtU_mem]
    simp
  have M : Mrg (LE f) (LE (mgF f a o)) (· ∈ ks) o a := ⟨ho, ha, ne, ao, fun u hu q => .inl (un u hu q), fun u v hu hv uo vo uv => by
    show v ∈ (if u = a then nwL f a o else f u) ↔ v ∈ f u ∨ (u = a ∧ v ∈ f o)
    by_cases z : u = a
    · subst z
      rw [if_pos rfl, nw v]
      exact ⟨fun q => q.1.imp id fun w => ⟨rfl, w⟩, fun q => ⟨q.imp id And.right, Ne.symm uv, vo⟩⟩
    · rw [if_neg z]
      exact ⟨.inl, fun q => q.elim id fun w => absurd w.1 z⟩⟩
  have lc : (noO o ks).length + 1 = ks.length := by
    have : ∀ l : List Int, l.Nodup → o ∈ l → (l.filter fun v => decide (v ≠ o)).length + 1 = l.length := by
      intro l
      induction l with
      | nil => intro _ h; cases h
      | cons x l ih =>
        intro nd hx
        have nd := List.nodup_cons.mp nd
        by_cases z : x = o
        · subst z
          have : (l.filter fun v => decide (v ≠ x)) = l := List.filter_eq_self.mpr fun v hv => by
            have : v ≠ x := fun z => nd.1 (z ▸ hv)
            simpa using this
          simp only [List.filter_cons, ne_eq, not_true_eq_false, decide_false, Bool.false_eq_true, if_false, List.length_cons]
          rw [this]
        · have := ih nd.2 ((List.mem_cons.mp hx).resolve_left fun q => z q.symm)
          simp [z] at this ⊢
          omega
    exact this ks h.nd ho
  refine ⟨ha, ⟨h.nd.filter _, ?_, fun u hu => ?_, fun u hu v hv => ?_, fun u hu => ?_, ?_, ?_⟩, lc⟩
  · have := h.few; omega
  · show u ∉ (if u = a then nwL f a o else f u)
    split
    · rename_i z
      subst z
      exact fun q => ((nw u).mp q).2.1 rfl
    · exact h.sl u ((sub u).mp hu).1
  · have hv : v ∈ (if u = a then nwL f a o else f u) := hv
    obtain ⟨uk, uo⟩ := (sub u).mp hu
    rw [sub]
    split at hv
    · obtain ⟨q1, q2, q3⟩ := (nw v).mp hv
      exact ⟨q1.elim (h.cl a ha v) (h.cl o ho v), q3⟩
    · rename_i z
      exact ⟨h.cl u uk v hv, fun w => z (un u uk (w ▸ hv))⟩
  · show (if u = a then nwL f a o else f u).Nodup
    split
    · exact (lt_nd srtU_up).filter _
    · exact h.ln u ((sub u).mp hu).1
  · have := M.rooted h.rt os
    show Rooted _ (fun v => v ∈ noO o ks) s
    rw [noO_eq]
    exact this
  · rw [← h.st]
    have := merge (n := 130) ⟨ks, by have := h.few; omega, fun v hv => hv⟩ h.rt M os
    show St _ _ (fun v => v ∈ noO o ks) s ↔ _
    rw [noO_eq]
    exact this.symm
theorem Rg.start (O : OkR rs) (hs : Vd rs s) {l : List Int} (nd : l.Nodup) (ll : l.length ≤ rs.length) (m : ∀ v, v ∈ l ↔ RP rs s v) : Rg rs s l (f0 rs) := by
  have el : (fun v => v ∈ l) = RP rs s := funext fun v => propext (m v)
  have e0 : ∀ u v, LE (f0 rs) u v ↔ Ed rs u v ∧ v ≠ u := fun u v => by
    unfold LE f0 Ed
    rw [srtU_mem, List.mem_filter]
    simp
  have cong : ∀ u v, RP rs s u → RP rs s v → u ≠ v → (LE (f0 rs) u v ↔ Ed rs u v) := fun u v _ _ ne => by
    rw [e0]
    exact ⟨fun q => q.1, fun q => ⟨q, Ne.symm ne⟩⟩
  have few := O.few
  refine ⟨nd, by omega, fun u hu q => ((e0 u u).mp q).2 rfl, fun u hu v hv => ?_, fun u hu => lt_nd srtU_up, ?_, ?_⟩
  · have ru := (m u).mp hu
    obtain ⟨e, _⟩ := (e0 u v).mp hv
    exact (m v).mpr (Rch.step ru e (nx_ok O (ru.vd O hs) e))
  · show Rooted _ (fun v => v ∈ l) s
    rw [el]
    obtain ⟨r1, r2⟩ := RP.rooted O hs
    exact ⟨r1, fun v hv => (r2 v hv).conv (fun u w pu pw ne e => (cong u w pu pw ne).mpr e) r1⟩
  · show St _ _ (fun v => v ∈ l) s ↔ _
    rw [el]
    exact ⟨St.conv cong, St.conv fun u v pu pv ne => (cong u v pu pv ne).symm⟩
/-- nothing is left to be merged -/
theorem Rg.fin (h : Rg rs s ks f) (hn : ∀ o ∈ ks, o ≠ s → (preds ks f o).length ≠ 1) : (ks.length = 1) ↔ St (Ed rs) 130 (RP rs s) s := by
  rw [← h.st]
  constructor
  · intro l
    obtain ⟨x, e⟩ := List.length_eq_one_iff.mp l
    have sk : s ∈ ks := h.rt.1
    rw [e] at sk
    have sx : s = x := by simpa using sk
    refine St.one fun v hv => ?_
    have hv : v ∈ ks := hv
    rw [e] at hv
    rw [sx]
    simpa using hv
  · intro H
    have sk : s ∈ ks := h.rt.1
    by_cases hx : ∃ v, v ∈ ks ∧ v ≠ s
    · obtain ⟨o, a, h1, h2, h3, h4, h5, h6⟩ := stuck (n := 130) ⟨ks, by have := h.few; omega, fun v hv => hv⟩ h.rt H hx
      refine absurd ?_ (hn o h1 h2)
      have all : ∀ u ∈ preds ks f o, u = a := fun u hu => by
        obtain ⟨uk, q⟩ := preds_mem.mp hu
        rcases h6 u uk q with z | z
        · exact z
        · exact absurd q (by rw [z]; exact h.sl o h1)
      have am : a ∈ preds ks f o := preds_mem.mpr ⟨h3, h5⟩
      have nd : (preds ks f o).Nodup := h.nd.filter _
      generalize preds ks f o = l at all am nd
      match l, am with
      | [x], _ => rfl
      | x :: y :: r, _ =>
        have e1 := all x (by simp)
        have e2 := all y (by simp)
        have := (List.nodup_cons.mp nd).1
        rw [e1, e2] at this
        simp at this
    · have all : ∀ v ∈ ks, v = s := fun v hv => Classical.byContradiction fun z => hx ⟨v, hv, z⟩
      have nd := h.nd
      generalize ks = l at all sk nd
      match l, sk with
      | [x], _ => rfl
      | x :: y :: r, _ =>
        have e1 := all x (by simp)
        have e2 := all y (by simp)
        have := (List.nodup_cons.mp nd).1
        rw [e1, e2] at this
        simp at this
end
end Wk

namespace Wk
open PySem PySem.Spec PyProof.Rows L2 He Vl Gr
section
variable {rs : List Rw} {cs ks : List Int} {s a o : Int} {f g : Int → List Int}
theorem lcK_ev {α : Type} (enc : α → D) (sel : α → Bool) (h : α → D) (l : List α) {n i : Nat} {vs : List Nat} {gt : FT} {ft : FG Bool} {fe : FE} {ρ ρ0 : Vl.Env} {kvs : List (L2.Key × D)} (e1 : ρ[i]? = some (some (.fr (.dK kvs)))) (ek : keysL kvs = l.map enc) (hn : ρ.length ≤ n) (e0 : wipeE ρ vs = ρ0)
    (hs : ∀ a ∈ l, stepC vs gt ft fe (enc a) ρ0 = some (if sel a then some (h a) else none, ρ0)) (hl : l.length ≤ 16777216) : vLcK n i vs gt ft fe ρ = some (.val (.nw (.lst ((l.filter sel).map h))) ρ0) := by
  unfold vLcK
  rw [e1]
  simp only [hn, if_true, e0, ek]
  rw [compD_ev (acc := []) hs (by simpa using hl)]
  simp
def rE (rs : List Rw) (s : Int) (cs : List Int) (x3 x4 x5 x6 x7 : Option T) : Vl.Env := [some (.fr (RL rs)), some (.fr (.int s)), some (.fr (.lst (I cs))), x3, x4, x5, x6, x7, none]
def C6 (x : Option T) : Prop := x = none ∨ ∃ i, x = some (.fr (.int i))
def C7 (x : Option T) : Prop := x = none ∨ ∃ l, x = some (.lst (I l))
theorem red_7 (hl : ks.length ≤ 900) {x4 x5 x7 : Option T} : s_law_reducible_7 (rE rs s cs (some (.fr (.dK (dK ks f)))) x4 x5 (some (.fr (.int o))) x7) = some (.nx (rE rs s cs (some (.fr (.dK (dK ks f)))) x4 x5 (some (.fr (.int o))) (some (.lst (I (preds ks f o)))))) := by
  have q := lcK_ev (fun i : Int => D.int i) (fun u => decide (o ∈ f u)) (fun i : Int => D.int i) ks (n := 9) (i := 3) (vs := [8]) (gt := gN 8) (ft := bnd (vOp (gInU false) (vV 6) (vOp gIxU (vV 3) (vV 8))) asB) (fe := vV 8) (kvs := dK ks f)
    (ρ := rE rs s cs (some (.fr (.dK (dK ks f)))) x4 x5 (some (.fr (.int o))) x7) (ρ0 := rE rs s cs (some (.fr (.dK (dK ks f)))) x4 x5 (some (.fr (.int o))) x7) rfl (keysL_dK.trans rfl) (by simp [rE]) rfl (fun u hu => by
      have d1 := dK_get (f := f) hu
      have i1 : ∀ {neg : Bool}, gInU neg (.int o) (.lst (I (f u))) = some (.fr (.bl (if neg then !decide (o ∈ f u) else decide (o ∈ f u)))) := inU_I rfl
      generalize dK ks f = kv at d1
      by_cases c : o ∈ f u
      · simp [stepC, wipeE, rE, d1, i1, c]
      · simp [stepC, wipeE, rE, d1, i1, c]) (by omega)
  have qi : ((ks.filter fun u => decide (o ∈ f u)).map fun i : Int => D.int i) = I (preds ks f o) := rfl
  rw [qi] at q
  unfold s_law_reducible_7
  generalize vLcK 9 3 [8] (gN 8) (bnd (vOp (gInU false) (vV 6) (vOp gIxU (vV 3) (vV 8))) asB) (vV 8) = G at q
  simp [rE] at q
  simp [rE, q]
theorem red_6 (hl : ks.length ≤ 900) {x4 x7 : Option T} : ∃ y5 y7, s_law_reducible_6 (rE rs s cs (some (.fr (.dK (dK ks f)))) x4 (some (.fr .non)) (some (.fr (.int o))) x7) = some (.nx (rE rs s cs (some (.fr (.dK (dK ks f)))) x4 y5 (some (.fr (.int o))) y7)) ∧ (C7 x7 → C7 y7) ∧
    ((y5 = some (.fr .non) ∧ (o ≠ s → (preds ks f o).length ≠ 1)) ∨ ∃ a, y5 = some (.fr (.tup [.int a, .int o])) ∧ o ≠ s ∧ preds ks f o = [a]) := by
  by_cases c : o = s
  · subst c
    refine ⟨some (.fr .non), x7, ?_, id, .inl ⟨rfl, fun z => absurd rfl z⟩⟩
    unfold s_law_reducible_6
    generalize sSeq s_law_reducible_7 s_law_reducible_8 = G
    simp [rE]
  · have c2 : (o == s) = false := beq_false_of_ne c
    have r7 := red_7 (rs := rs) (s := s) (cs := cs) (f := f) (o := o) hl (x4 := x4) (x5 := some (.fr .non)) (x7 := x7)
    by_cases l1 : (preds ks f o).length = 1
    · obtain ⟨a, ea⟩ := List.length_eq_one_iff.mp l1
      rw [ea] at r7
      refine ⟨some (.fr (.tup [.int a, .int o])), some (.lst (I [a])), ?_, fun _ => .inr ⟨[a], rfl⟩, .inr ⟨a, rfl, c, ea⟩⟩
      have a0 : L2.atI (I [a]) 0 = some (.int a) := L2.atI_nat (j := 0) (by rfl)
      have r8 : s_law_reducible_8 (rE rs s cs (some (.fr (.dK (dK ks f)))) x4 (some (.fr .non)) (some (.fr (.int o))) (some (.lst (I [a])))) = some (.nx (rE rs s cs (some (.fr (.dK (dK ks f)))) x4 (some (.fr (.tup [.int a, .int o]))) (some (.fr (.int o))) (some (.lst (I [a]))))) := by
        have il : (I [a]).length = 1 := rfl
        simp [s_law_reducible_8, s_law_reducible_9, rE, a0, il]
      have r78 := (seq_nx r7).trans r8
      unfold s_law_reducible_6
      generalize sSeq s_law_reducible_7 s_law_reducible_8 = G at r78
      simp [rE] at r78
      simp [rE, c, c2, r78]
    · refine ⟨some (.fr .non), some (.lst (I (preds ks f o))), ?_, fun _ => .inr ⟨_, rfl⟩, .inl ⟨rfl, fun _ => l1⟩⟩
      have r8 : s_law_reducible_8 (rE rs s cs (some (.fr (.dK (dK ks f)))) x4 (some (.fr .non)) (some (.fr (.int o))) (some (.lst (I (preds ks f o))))) = some (.nx (rE rs s cs (some (.fr (.dK (dK ks f)))) x4 (some (.fr .non)) (some (.fr (.int o))) (some (.lst (I (preds ks f o)))))) := by
        have l2 : ¬ ((preds ks f o).length : Int) = 1 := by omega
        simp [s_law_reducible_8, rE, l2]
      have r78 := (seq_nx r7).trans r8
      unfold s_law_reducible_6
      generalize sSeq s_law_reducible_7 s_law_reducible_8 = G at r78
      simp [rE] at r78
      simp [rE, c, c2, r78]
/-- once found it stays -/
theorem keep_6 {ds : List D} {x3 x4 x7 : Option T} : ∀ {l : List Int} {x6 : Option T}, ∃ y6, loopD (gN 6) s_law_reducible_6 (I l) (rE rs s cs x3 x4 (some (.fr (.tup ds))) x6 x7) = some (.nx (rE rs s cs x3 x4 (some (.fr (.tup ds))) y6 x7)) ∧ (C6 x6 → C6 y6)
  | [], x6 => ⟨x6, rfl, id⟩
  | v :: l, x6 => by
    have st : s_law_reducible_6 (rE rs s cs x3 x4 (some (.fr (.tup ds))) (some (.fr (.int v))) x7) = some (.nx (rE rs s cs x3 x4 (some (.fr (.tup ds))) (some (.fr (.int v))) x7)) := by
      unfold s_law_reducible_6
      generalize sSeq s_law_reducible_7 s_law_reducible_8 = G
      simp [rE]
    obtain ⟨y6, ih, h6⟩ := keep_6 (x3 := x3) (x4 := x4) (x7 := x7) (ds := ds) (l := l) (x6 := some (.fr (.int v)))
    refine ⟨y6, ?_, fun _ => h6 (.inr ⟨v, rfl⟩)⟩
    show loopD (gN 6) s_law_reducible_6 (.int v :: I l) _ = _
    unfold loopD
    have gn : gN 6 (.int v) (rE rs s cs x3 x4 (some (.fr (.tup ds))) x6 x7) = some (rE rs s cs x3 x4 (some (.fr (.tup ds))) (some (.fr (.int v))) x7) := rfl
    rw [gn]
    simp only [st]
    exact ih
theorem find_6 (hl : ks.length ≤ 900) {x4 : Option T} : ∀ {l : List Int} {x6 x7 : Option T}, ∃ y5 y6 y7, loopD (gN 6) s_law_reducible_6 (I l) (rE rs s cs (some (.fr (.dK (dK ks f)))) x4 (some (.fr .non)) x6 x7) = some (.nx (rE rs s cs (some (.fr (.dK (dK ks f)))) x4 y5 y6 y7)) ∧ (C6 x6 → C6 y6) ∧ (C7 x7 → C7 y7) ∧
    ((y5 = some (.fr .non) ∧ ∀ o ∈ l, o ≠ s → (preds ks f o).length ≠ 1) ∨ ∃ a o, y5 = some (.fr (.tup [.int a, .int o])) ∧ o ∈ l ∧ o ≠ s ∧ preds ks f o = [a])
  | [], x6, x7 => ⟨_, x6, x7, rfl, id, id, .inl ⟨rfl, fun o h => by cases h⟩⟩
  | v :: l, x6, x7 => by
    obtain ⟨y5, y7, st, h7, h⟩ := red_6 (rs := rs) (s := s) (cs := cs) (f := f) (o := v) hl (x4 := x4) (x7 := x7)
    have gn : gN 6 (.int v) (rE rs s cs (some (.fr (.dK (dK ks f)))) x4 (some (.fr .non)) x6 x7) = some (rE rs s cs (some (.fr (.dK (dK ks f)))) x4 (some (.fr .non)) (some (.fr (.int v))) x7) := rfl
    have un : loopD (gN 6) s_law_reducible_6 (I (v :: l)) (rE rs s cs (some (.fr (.dK (dK ks f)))) x4 (some (.fr .non)) x6 x7) = loopD (gN 6) s_law_reducible_6 (I l) (rE rs s cs (some (.fr (.dK (dK ks f)))) x4 y5 (some (.fr (.int v))) y7) := by
      show loopD (gN 6) s_law_reducible_6 (.int v :: I l) _ = _
      conv => lhs; unfold loopD
      rw [gn]
      simp only [st]
    rcases h with ⟨rfl, h⟩ | ⟨a, rfl, h1, h2⟩
    · obtain ⟨z5, z6, z7, ih, i6, i7, i⟩ := find_6 hl (l := l) (x6 := some (.fr (.int v))) (x7 := y7)
      refine ⟨z5, z6, z7, un.trans ih, fun _ => i6 (.inr ⟨v, rfl⟩), fun q => i7 (h7 q), ?_⟩
      rcases i with ⟨e, i⟩ | ⟨a, o, e, j1, j2, j3⟩
      · exact .inl ⟨e, fun o ho => (List.mem_cons.mp ho).elim (fun z => z ▸ h) (i o)⟩
      · exact .inr ⟨a, o, e, List.mem_cons_of_mem _ j1, j2, j3⟩
    · obtain ⟨y6, ih, h6⟩ := keep_6 (rs := rs) (s := s) (cs := cs) (x3 := some (.fr (.dK (dK ks f)))) (x4 := x4) (x7 := y7) (ds := [.int a, .int v]) (l := l) (x6 := some (.fr (.int v)))
      exact ⟨_, y6, y7, un.trans ih, fun _ => h6 (.inr ⟨v, rfl⟩), h7, .inr ⟨a, v, rfl, List.mem_cons_self, h1, h2⟩⟩
/-- a round of the law's loop -/
theorem red_round (hcl : D.cls (rs.map rwD) = true) (G : Rg rs s ks f) {k : Nat} {x5 x6 x7 : Option T} (h6 : C6 x6) (h7 : C7 x7) :
    (∃ y6 y7, b_law_reducible_3 (rE rs s cs (some (.dK (dK ks f))) (some (.fr (.int k))) x5 x6 x7) = some (.brk (rE rs s cs (some (.dK (dK ks f))) (some (.fr (.int k))) (some (.fr .non)) y6 y7)) ∧ ∀ o ∈ ks, o ≠ s → (preds ks f o).length ≠ 1) ∨
    (∃ a o y5 y6 y7, b_law_reducible_3 (rE rs s cs (some (.dK (dK ks f))) (some (.fr (.int k))) x5 x6 x7) = some (.nx (rE rs s cs (some (.dK (dK (noO o ks) (mgF f a o)))) (some (.fr (.int k))) y5 y6 y7)) ∧ C6 y6 ∧ C7 y7 ∧ o ∈ ks ∧ o ≠ s ∧ preds ks f o = [a]) := by
  have few := G.few
  have e1 : (sSetF 5 (vC .non)) (rE rs s cs (some (.dK (dK ks f))) (some (.fr (.int k))) x5 x6 x7) = some (.nx (rE rs s cs (some (.dK (dK ks f))) (some (.fr (.int k))) (some (.fr .non)) x6 x7)) := by simp [rE]
  obtain ⟨y5, y6, y7, lp, g6, g7, h⟩ := find_6 (rs := rs) (s := s) (cs := cs) (f := f) (ks := ks) (by omega) (x4 := some (.fr (.int k))) (l := ks) (x6 := x6) (x7 := x7)
  have g6 := g6 h6
  have g7 := g7 h7
  have cl : clE [some (.fr (RL rs)), some (.fr (.int s)), some (.fr (.lst (I cs))), none, some (.fr (.int k)), y5, y6, y7, none] = true := by
    have c5 : ∀ {t}, y5 = some t → t.cl = true := fun {t} e => by
      rcases h with ⟨h, _⟩ | ⟨a, o, h, _⟩
      · rw [h] at e; cases e; rfl
      · rw [h] at e; cases e; rfl
    have c6 : ∀ {t}, y6 = some t → t.cl = true := fun {t} e => by
      rcases g6 with h | ⟨i, h⟩
      · rw [h] at e; cases e
      · rw [h] at e; cases e; rfl
    have c7 : ∀ {t}, y7 = some t → t.cl = true := fun {t} e => by
      rcases g7 with h | ⟨l, h⟩
      · rw [h] at e; cases e
      · rw [h] at e; cases e; exact cls_I l
    have one : ∀ (x : Option T) (r : Vl.Env), (∀ {t}, x = some t → t.cl = true) → clE r = true → clE (x :: r) = true := fun x r hx hr => by
      cases x with
      | none => exact hr
      | some t => show (t.cl && clE r) = true; rw [hx rfl, hr]; rfl
    exact one _ _ (fun e => by cases e; exact hcl) (one _ _ (fun e => by cases e; rfl) (one _ _ (fun e => by cases e; exact cl_lst) (one _ _ (fun e => by cases e) (one _ _ (fun e => by cases e; rfl) (one _ _ c5 (one _ _ c6 (one _ _ c7 (one _ _ (fun e => by cases e) rfl))))))))
  have e2 : (sThaw 3 (sForK 3 (gN 6) (s_law_reducible_6))) (rE rs s cs (some (.dK (dK ks f))) (some (.fr (.int k))) (some (.fr .non)) x6 x7) = some (.nx (rE rs s cs (some (.dK (dK ks f))) (some (.fr (.int k))) y5 y6 y7)) := by
    have lp2 : sForK 3 (gN 6) s_law_reducible_6 (rE rs s cs (some (.fr (.dK (dK ks f)))) (some (.fr (.int k))) (some (.fr .non)) x6 x7) = some (.nx (rE rs s cs (some (.fr (.dK (dK ks f)))) (some (.fr (.int k))) y5 y6 y7)) := by
      show noX (loopD (gN 6) s_law_reducible_6 (keysL (dK ks f)) _) = _
      rw [keysL_dK, lp]
      rfl
    exact thaw_nx (i := 3) (ρ := rE rs s cs (some (.dK (dK ks f))) (some (.fr (.int k))) (some (.fr .non)) x6 x7) (ρ' := rE rs s cs (some (.fr (.dK (dK ks f)))) (some (.fr (.int k))) y5 y6 y7) (kvs := dK ks f) rfl lp2 cl
  rcases h with ⟨rfl, h⟩ | ⟨a, o, rfl, h1, h2, h3⟩
  · refine .inl ⟨y6, y7, (seq_nx e1).trans ((seq_nx e2).trans ?_), h⟩
    have e3 : s_law_reducible_10 (rE rs s cs (some (.dK (dK ks f))) (some (.fr (.int k))) (some (.fr .non)) y6 y7) = some (.brk (rE rs s cs (some (.dK (dK ks f))) (some (.fr (.int k))) (some (.fr .non)) y6 y7)) := by
      simp [s_law_reducible_10, rE]
    unfold sSeq onNx
    rw [e3]
  · have e3 : s_law_reducible_10 (rE rs s cs (some (.dK (dK ks f))) (some (.fr (.int k))) (some (.fr (.tup [.int a, .int o]))) y6 y7) = some (.nx (rE rs s cs (some (.dK (dK ks f))) (some (.fr (.int k))) (some (.fr (.tup [.int a, .int o]))) y6 y7)) := by
      simp [s_law_reducible_10, rE]
    obtain ⟨ha, _⟩ := preds_mem.mp (show a ∈ preds ks f o by rw [h3]; simp)
    have mf := merge_F (f := f) G.nd (by omega) ha h1 (by have := G.len ha; omega) (by have := G.len h1; omega)
    have a0 : L2.atI [D.int a, .int o] 0 = some (.int a) := L2.atI_nat (j := 0) (by rfl)
    have a1 : L2.atI [D.int a, .int o] 1 = some (.int o) := L2.atI_nat (j := 1) (by rfl)
    refine .inr ⟨a, o, some (.fr (.tup [.int a, .int o])), y6, y7, (seq_nx e1).trans ((seq_nx e2).trans ((seq_nx e3).trans ?_)), g6, g7, h1, h2, h3⟩
    simp [s_law_reducible_12, rE, a0, a1, mf]
    rfl
theorem red_loop (hcl : D.cls (rs.map rwD) = true) : ∀ {m j : Nat} {ks : List Int} {f : Int → List Int} {x4 x5 x6 x7 : Option T}, Rg rs s ks f → ks.length = m → C6 x6 → C7 x7 →
    ∃ ks' f' y4 y5 y6 y7, loopD (gN 4) b_law_reducible_3 ((List.range' j m).map fun (k : Nat) => D.int k) (rE rs s cs (some (.dK (dK ks f))) x4 x5 x6 x7) = some (.nx (rE rs s cs (some (.dK (dK ks' f'))) y4 y5 y6 y7)) ∧ Rg rs s ks' f' ∧ ∀ o ∈ ks', o ≠ s → (preds ks' f' o).length ≠ 1
  | 0, j, ks, f, _, _, _, _, G, hm, _, _ => by
    have := List.length_pos_of_mem (G.rt.1 : s ∈ ks)
    omega
  | m + 1, j, ks, f, x4, x5, x6, x7, G, hm, h6, h7 => by
    have gn : gN 4 (.int (j : Nat)) (rE rs s cs (some (.dK (dK ks f))) x4 x5 x6 x7) = some (rE rs s cs (some (.dK (dK ks f))) (some (.fr (.int (j : Nat)))) x5 x6 x7) := rfl
    rcases red_round (cs := cs) hcl G (k := j) (x5 := x5) h6 h7 with ⟨y6, y7, e, hn⟩ | ⟨a, o, y5, y6, y7, e, g6, g7, h1, h2, h3⟩
    · refine ⟨ks, f, some (.fr (.int (j : Nat))), some (.fr .non), y6, y7, ?_, G, hn⟩
      rw [List.range'_succ, List.map_cons]
      unfold loopD
      rw [gn]
      simp only [e]
    · obtain ⟨ha, G2, l2⟩ := G.step h1 h2 h3
      obtain ⟨ks', f', z4, z5, z6, z7, ih, G3, hn⟩ := red_loop hcl (m := m) (j := j + 1) (x4 := some (.fr (.int (j : Nat)))) (x5 := y5) G2 (by omega) g6 g7
      refine ⟨ks', f', z4, z5, z6, z7, ?_, G3, hn⟩
      rw [List.range'_succ, List.map_cons]
      unfold loopD
      rw [gn]
      simp only [e]
      exact ih
theorem red_F (O : OkR rs) (hcl : D.cls (rs.map rwD) = true) (hs : Vd rs s) : ∃ b : Bool, F_law_reducible [.fr (RL rs), .fr (.int s)] = some (.ret (.fr (.bl b)) [.fr (RL rs), .fr (.int s)]) ∧ (b = true ↔ St (Ed rs) 130 (RP rs s) s) := by
  have few := O.few
  obtain ⟨l, lf, nd, ll, m⟩ := lreach_F O hs
  have vl : ∀ v ∈ l, Vd rs v := fun v hv => ((m v).mp hv).vd O hs
  have ef := edges_F O vl nd (by omega)
  have G := Rg.start O hs nd ll m
  have e1 : s_law_reducible_1 [some (.fr (RL rs)), some (.fr (.int s)), none, none, none, none, none, none, none] = some (.nx [some (.fr (RL rs)), some (.fr (.int s)), some (.fr (.lst (I l))), none, none, none, none, none, none]) := by
    have few2 : (rs.length : Int) ≤ 1000000 := by omega
    have rd := range_D (rs := rs)
    simp [s_law_reducible_1, vListRg, kListRg, few2, rd, lf, RL]
  have e2 : s_law_reducible_2 [some (.fr (RL rs)), some (.fr (.int s)), some (.fr (.lst (I l))), none, none, none, none, none, none] = some (.nx (rE rs s l (some (.dK (dK l (f0 rs)))) none none none none)) := by
    simp [s_law_reducible_2, ef, rE]
    rfl
  obtain ⟨ks', f', y4, y5, y6, y7, lp, G2, hn⟩ := red_loop (cs := l) hcl (m := l.length) (j := 0) (x4 := none) (x5 := none) (x6 := none) (x7 := none) G rfl (.inl rfl) (.inl rfl)
  have e3 : s_law_reducible_3 (rE rs s l (some (.dK (dK l (f0 rs)))) none none none none) = some (.nx (rE rs s l (some (.dK (dK ks' f'))) y4 y5 y6 y7)) := by
    have d := dR1_int (i := (l.length : Nat)) (by omega) (by omega)
    simp only [Int.toNat_natCast] at d
    rw [List.range_eq_range'] at d
    exact (for_val (by simp [rE, d])).trans lp
  have kl := dK_len (ks := ks') (f := f')
  refine ⟨decide (ks'.length = 1), body_ret (w := .fr (.bl (decide (ks'.length = 1)))) (ρ := rE rs s l (some (.dK (dK ks' f'))) y4 y5 y6 y7) rfl ?_ rfl rfl, by rw [decide_eq_true_iff]; exact G2.fin hn⟩
  show g_law_reducible [some (.fr (RL rs)), some (.fr (.int s)), none, none, none, none, none, none, none] = _
  unfold g_law_reducible
  rw [seq_nx e1, seq_nx e2, seq_nx e3]
  have gl : gLenK [.dK (dK ks' f')] = some (.fr (.int ks'.length)) := by rw [← kl]; rfl
  by_cases c : ks'.length = 1
  · simp [s_law_reducible_13, rE, gl, c]
  · have c2 : ¬ (ks'.length : Int) = 1 := by omega
    simp [s_law_reducible_13, rE, gl, c, c2]
end
end Wk

namespace Wk
open PySem PySem.Spec PyProof.Rows L2 He Vl Gr
theorem big_right {i j : Int} (h : j.natAbs ≤ 18446744073709551615) : big64 i j = true := by
  unfold big64
  simp
  omega
theorem fm (x : Int) {m : Int} (h : 0 < m) : 0 ≤ x.fmod m ∧ x.fmod m < m := ⟨Int.fmod_nonneg_of_pos _ h, Int.fmod_lt_of_pos _ h⟩
section
variable {cs : List Int}
/-- the law's state -/
structure Sx where
  a : Int
  p : Nat
  h : Int
def sxD (cs : List Int) (x : Sx) : List D := [.int x.a, .int x.p, .lst (I cs), .int x.h]
abbrev sxT (cs : List Int) (x : Sx) : T := .lst (sxD cs x)
theorem sx0 {x : Sx} : L2.atI (sxD cs x) 0 = some (.int x.a) := L2.atI_nat (j := 0) (by rfl)
theorem sx1 {x : Sx} : L2.atI (sxD cs x) 1 = some (.int x.p) := L2.atI_nat (j := 1) (by rfl)
theorem sx2 {x : Sx} : L2.atI (sxD cs x) 2 = some (.lst (I cs)) := L2.atI_nat (j := 2) (by rfl)
theorem sx3 {x : Sx} : L2.atI (sxD cs x) 3 = some (.int x.h) := L2.atI_nat (j := 3) (by rfl)
theorem draw_F {x : Sx} {m : Int} (hm : 1 ≤ m) (hm2 : m ≤ 100000) : ∃ (v : Int) (y : Sx), F_law_draw [sxT cs x, .fr (.int m)] = some (.ret (.fr (.int v)) [sxT cs y, .fr (.int m)]) ∧ 0 ≤ v ∧ v < m := by
  have se0 : ∀ {z : Sx} {i : Int}, seL (.lst (sxD cs z)) (.int 0) (.int i) = some (.lst (sxD cs { z with a := i })) := fun {z i} => rfl
  have se1 : ∀ {z : Sx} {i : Nat}, seL (.lst (sxD cs z)) (.int 1) (.int i) = some (.lst (sxD cs { z with p := i })) := fun {z i} => rfl
  have se3 : ∀ {z : Sx} {i : Int}, seL (.lst (sxD cs z)) (.int 3) (.int i) = some (.lst (sxD cs { z with h := i })) := fun {z i} => rfl
  have pw : gPow (.int 10) (.int 18) = some (.fr (.int 1000000000000000000)) := rfl
  have up : ∀ {x2 x3 x4 x5 : Option T}, x.a < m → ∃ (y : Sx) (z3 z4 z5 : Option T), s_law_draw_1 [some (sxT cs x), some (.fr (.int m)), x2, x3, x4, x5] = some (.nx [some (sxT cs y), some (.fr (.int m)), x2, z3, z4, z5]) := fun {x2 x3 x4 x5} hlt => by
    have b1 : (sSetF 3 (vOp gIxU (vV 0) (vC (.int 1)))) [some (sxT cs x), some (.fr (.int m)), x2, x3, x4, x5] = some (.nx [some (sxT cs x), some (.fr (.int m)), x2, some (.fr (.int x.p)), x4, x5]) := by
      simp [sx1]
    have b2 : s_law_draw_3 [some (sxT cs x), some (.fr (.int m)), x2, some (.fr (.int x.p)), x4, x5] = some (.nx [some (sxT cs { x with p := x.p + 1 }), some (.fr (.int m)), x2, some (.fr (.int x.p)), x4, x5]) := by
      have q := se1 (z := x) (i := x.p + 1)
      have q : seL (.lst (sxD cs x)) (.int 1) (.int (x.p + 1)) = some (.lst (sxD cs { x with p := x.p + 1 })) := q
      simp [s_law_draw_3, q]
    have b3 : (sSetF 4 (vC (.int 0))) [some (sxT cs { x with p := x.p + 1 }), some (.fr (.int m)), x2, some (.fr (.int x.p)), x4, x5] = some (.nx [some (sxT cs { x with p := x.p + 1 }), some (.fr (.int m)), x2, some (.fr (.int x.p)), some (.fr (.int 0)), x5]) := by simp
    have b5 : ∃ cell : Int, s_law_draw_5 [some (sxT cs { x with p := x.p + 1 }), some (.fr (.int m)), x2, some (.fr (.int x.p)), some (.fr (.int 0)), x5] = some (.nx [some (sxT cs { x with p := x.p + 1 }), some (.fr (.int m)), x2, some (.fr (.int x.p)), some (.fr (.int cell)), x5]) := by
      by_cases c : x.p < cs.length
      · have e : L2.atI (I cs) (x.p : Int) = some (.int cs[x.p]) := L2.atI_nat (by rw [I_get, List.getElem?_eq_getElem c]; rfl)
        exact ⟨cs[x.p], by simp [s_law_draw_5, s_law_draw_6, sx2, c, e]⟩
      · exact ⟨0, by simp [s_law_draw_5, sx2, c]⟩
    obtain ⟨cell, b5⟩ := b5
    have b7 : ∃ (y : Sx) (z5 : Option T), s_law_draw_7 [some (sxT cs { x with p := x.p + 1 }), some (.fr (.int m)), x2, some (.fr (.int x.p)), some (.fr (.int cell)), x5] = some (.nx [some (sxT cs y), some (.fr (.int m)), x2, some (.fr (.int x.p)), some (.fr (.int cell)), z5]) := by
      generalize ({ x with p := x.p + 1 } : Sx) = x'
      by_cases c : 1000000000000000000 ≤ cell
      · refine ⟨{ x' with a := cell }, x5, ?_⟩
        unfold s_law_draw_7
        generalize sSeq s_law_draw_10 (sSeq s_law_draw_11 s_law_draw_12) = G
        simp [pw, c, se0]
      · have g1 : ∀ i : Int, big64 i 48271 = true := fun i => big_right (by decide)
        have g2 : ∀ i : Int, big64 i 69621 = true := fun i => big_right (by decide)
        have g3 : ∀ i : Int, big64 i 2147483647 = true := fun i => big_right (by decide)
        have g4 : ∀ i : Int, big64 i 30011 = true := fun i => big_right (by decide)
        let h1 : Int := ((x'.h + cell.fmod 2147483629 + x.p + 1) * 48271).fmod 2147483647
        have c10 : s_law_draw_10 [some (sxT cs x'), some (.fr (.int m)), x2, some (.fr (.int x.p)), some (.fr (.int cell)), x5] = some (.nx [some (sxT cs { x' with h := h1 }), some (.fr (.int m)), x2, some (.fr (.int x.p)), some (.fr (.int cell)), x5]) := by
          simp [s_law_draw_10, sx3, g1, se3, h1]
        have sy : ∀ {z : Sx}, L2.atI (sxD cs z) 3 = some (.int z.h) := sx3
        have c11 : s_law_draw_11 [some (sxT cs { x' with h := h1 }), some (.fr (.int m)), x2, some (.fr (.int x.p)), some (.fr (.int cell)), x5] = some (.nx [some (sxT cs { x' with h := h1 }), some (.fr (.int m)), x2, some (.fr (.int x.p)), some (.fr (.int cell)), some (.fr (.int ((h1 * 69621 + 11).fmod 2147483629)))]) := by
          simp [s_law_draw_11, sy, g2]
        generalize (h1 * 69621 + 11).fmod 2147483629 = mx at c11
        have c12 : s_law_draw_12 [some (sxT cs { x' with h := h1 }), some (.fr (.int m)), x2, some (.fr (.int x.p)), some (.fr (.int cell)), some (.fr (.int mx))] = some (.nx [some (sxT cs { x' with h := h1, a := mx * 2147483647 + (mx * 30011 + h1).fmod 2147483587 }), some (.fr (.int m)), x2, some (.fr (.int x.p)), some (.fr (.int cell)), some (.fr (.int mx))]) := by
          simp [s_law_draw_12, sy, g3, g4, se0]
        refine ⟨{ x' with h := h1, a := mx * 2147483647 + (mx * 30011 + h1).fmod 2147483587 }, some (.fr (.int mx)), ?_⟩
        have all := (seq_nx c10).trans ((seq_nx c11).trans c12)
        unfold s_law_draw_7
        generalize sSeq s_law_draw_10 (sSeq s_law_draw_11 s_law_draw_12) = G at all
        simp [pw, c, all]
    obtain ⟨y, z5, b7⟩ := b7
    have all := (seq_nx b1).trans ((seq_nx b2).trans ((seq_nx b3).trans ((seq_nx b5).trans b7)))
    refine ⟨y, some (.fr (.int x.p)), some (.fr (.int cell)), z5, ?_⟩
    unfold s_law_draw_1
    generalize sSeq (sSetF 3 (vOp gIxU (vV 0) (vC (.int 1)))) (sSeq s_law_draw_3 (sSeq (sSetF 4 (vC (.int 0))) (sSeq s_law_draw_5 s_law_draw_7))) = G at all
    simp [sx0, hlt, all]
  have st1 : ∃ (y : Sx) (z3 z4 z5 : Option T), s_law_draw_1 [some (sxT cs x), some (.fr (.int m)), none, none, none, none] = some (.nx [some (sxT cs y), some (.fr (.int m)), none, z3, z4, z5]) := by
    by_cases c : x.a < m
    · exact up c
    · refine ⟨x, none, none, none, ?_⟩
      unfold s_law_draw_1
      generalize sSeq (sSetF 3 (vOp gIxU (vV 0) (vC (.int 1)))) (sSeq s_law_draw_3 (sSeq (sSetF 4 (vC (.int 0))) (sSeq s_law_draw_5 s_law_draw_7))) = G
      simp [sx0, c]
  obtain ⟨y, z3, z4, z5, st1⟩ := st1
  have f := fm y.a (m := m) (by omega)
  have m0 : ¬ m = 0 := by omega
  refine ⟨y.a.fmod m, { y with a := y.a.fdiv m }, body_ret (w := .fr (.int (y.a.fmod m))) (ρ := [some (sxT cs { y with a := y.a.fdiv m }), some (.fr (.int m)), some (.fr (.int (y.a.fmod m))), z3, z4, z5]) rfl ?_ rfl rfl, f.1, f.2⟩
  show g_law_draw [some (sxT cs x), some (.fr (.int m)), none, none, none, none] = _
  have s13 : s_law_draw_13 [some (sxT cs y), some (.fr (.int m)), none, z3, z4, z5] = some (.nx [some (sxT cs y), some (.fr (.int m)), some (.fr (.int (y.a.fmod m))), z3, z4, z5]) := by
    simp [s_law_draw_13, sx0, m0]
  have s14 : s_law_draw_14 [some (sxT cs y), some (.fr (.int m)), some (.fr (.int (y.a.fmod m))), z3, z4, z5] = some (.nx [some (sxT cs { y with a := y.a.fdiv m }), some (.fr (.int m)), some (.fr (.int (y.a.fmod m))), z3, z4, z5]) := by
    have mn : m.natAbs < 1073741824 := by omega
    simp [s_law_draw_14, sx0, m0, se0, mn]
  unfold g_law_draw
  rw [seq_nx st1, seq_nx s13, seq_nx s14]
  simp
end
end Wk

namespace Wk
open PySem PySem.Spec PyProof.Rows L2 He Vl Gr
section
variable {cs : List Int}
theorem next_F {x : Sx} {at_ many kind : Int} (h0 : 0 ≤ at_) (h1 : at_ < many) (hm : many ≤ 200) : ∃ (v : Int) (y : Sx), F_law_next [sxT cs x, .fr (.int at_), .fr (.int many), .fr (.int kind)] = some (.ret (.fr (.int v)) [sxT cs y, .fr (.int at_), .fr (.int many), .fr (.int kind)]) ∧ 0 ≤ v ∧ v < many := by
  have fin : ∀ {v : Int} {y : Sx} {z : Option T}, g_law_next [some (sxT cs x), some (.fr (.int at_)), some (.fr (.int many)), some (.fr (.int kind)), none] = some (.ret (.fr (.int v)) [some (sxT cs y), some (.fr (.int at_)), some (.fr (.int many)), some (.fr (.int kind)), z]) → 0 ≤ v → v < many → ∃ (v : Int) (y : Sx), F_law_next [sxT cs x, .fr (.int at_), .fr (.int many), .fr (.int kind)] = some (.ret (.fr (.int v)) [sxT cs y, .fr (.int at_), .fr (.int many), .fr (.int kind)]) ∧ 0 ≤ v ∧ v < many := fun {v y z} e a b =>
    ⟨v, y, body_ret rfl e rfl rfl, a, b⟩
  by_cases k0 : kind = 0
  · obtain ⟨v, y, f, a, b⟩ := draw_F (cs := cs) (x := x) (m := many) (by omega) (by omega)
    exact fin (v := v) (y := y) (z := none) (seq_ret (by simp [s_law_next_1, s_law_next_2, k0, f])) a b
  · have s1 : s_law_next_1 [some (sxT cs x), some (.fr (.int at_)), some (.fr (.int many)), some (.fr (.int kind)), none] = some (.nx [some (sxT cs x), some (.fr (.int at_)), some (.fr (.int many)), some (.fr (.int kind)), none]) := by simp [s_law_next_1, k0]
    obtain ⟨c, y, f, c0, c6⟩ := draw_F (cs := cs) (x := x) (m := 6) (by omega) (by omega)
    have s3 : s_law_next_3 [some (sxT cs x), some (.fr (.int at_)), some (.fr (.int many)), some (.fr (.int kind)), none] = some (.nx [some (sxT cs y), some (.fr (.int at_)), some (.fr (.int many)), some (.fr (.int kind)), some (.fr (.int c))]) := by simp [s_law_next_3, f]
    by_cases q0 : c = 0
    · obtain ⟨v, y2, f2, a, b⟩ := draw_F (cs := cs) (x := y) (m := at_ + 1) (by omega) (by omega)
      exact fin (v := v) (y := y2) (z := some (.fr (.int c))) ((seq_nx s1).trans ((seq_nx s3).trans (seq_ret (by simp [s_law_next_4, s_law_next_5, q0, f2])))) a (by omega)
    · have s4 : s_law_next_4 [some (sxT cs y), some (.fr (.int at_)), some (.fr (.int many)), some (.fr (.int kind)), some (.fr (.int c))] = some (.nx [some (sxT cs y), some (.fr (.int at_)), some (.fr (.int many)), some (.fr (.int kind)), some (.fr (.int c))]) := by simp [s_law_next_4, q0]
      have last : ∀ {y : Sx}, s_law_next_8 [some (sxT cs y), some (.fr (.int at_)), some (.fr (.int many)), some (.fr (.int kind)), some (.fr (.int c))] = some (.ret (.fr (.int (if at_ + 1 < many - 1 then at_ + 1 else many - 1))) [some (sxT cs y), some (.fr (.int at_)), some (.fr (.int many)), some (.fr (.int kind)), some (.fr (.int c))]) := fun {y} => by simp [s_law_next_8]
      have lb : 0 ≤ (if at_ + 1 < many - 1 then at_ + 1 else many - 1) ∧ (if at_ + 1 < many - 1 then at_ + 1 else many - 1) < many := by split <;> omega
      have far : ∀ {y : Sx}, ∃ (v : Int) (y2 : Sx), s_law_next_7 [some (sxT cs y), some (.fr (.int at_)), some (.fr (.int many)), some (.fr (.int kind)), some (.fr (.int c))] = some (.ret (.fr (.int v)) [some (sxT cs y2), some (.fr (.int at_)), some (.fr (.int many)), some (.fr (.int kind)), some (.fr (.int c))]) ∧ 0 ≤ v ∧ v < many := fun {y} => by
        obtain ⟨v, y2, f2, a, b⟩ := draw_F (cs := cs) (x := y) (m := 3) (by omega) (by omega)
        refine ⟨if at_ + 1 + v < many - 1 then at_ + 1 + v else many - 1, y2, by simp [s_law_next_7, f2], ?_⟩
        split <;> omega
      by_cases q1 : c = 1
      · by_cases k4 : kind < 4
        · obtain ⟨v, y2, e, a, b⟩ := far (y := y)
          refine fin (v := v) (y := y2) (z := some (.fr (.int c))) ((seq_nx s1).trans ((seq_nx s3).trans ((seq_nx s4).trans (seq_ret ?_)))) a b
          unfold s_law_next_6
          generalize s_law_next_7 = G at e
          simp [q1, k4] at e ⊢
          simp [e]
        · by_cases k5 : kind = 5
          · obtain ⟨w, y2, f2, _, _⟩ := draw_F (cs := cs) (x := y) (m := 8) (by omega) (by omega)
            by_cases w0 : w = 0
            · obtain ⟨v, y3, e, a, b⟩ := far (y := y2)
              refine fin (v := v) (y := y3) (z := some (.fr (.int c))) ((seq_nx s1).trans ((seq_nx s3).trans ((seq_nx s4).trans (seq_ret ?_)))) a b
              unfold s_law_next_6
              generalize s_law_next_7 = G at e
              simp [q1, k5] at e ⊢
              simp [f2, w0, e]
            · have s6 : s_law_next_6 [some (sxT cs y), some (.fr (.int at_)), some (.fr (.int many)), some (.fr (.int kind)), some (.fr (.int c))] = some (.nx [some (sxT cs y2), some (.fr (.int at_)), some (.fr (.int many)), some (.fr (.int kind)), some (.fr (.int c))]) := by
                unfold s_law_next_6
                generalize s_law_next_7 = G
                simp [q1, k5, f2, w0]
              exact fin ((seq_nx s1).trans ((seq_nx s3).trans ((seq_nx s4).trans ((seq_nx s6).trans last)))) lb.1 lb.2
          · have s6 : s_law_next_6 [some (sxT cs y), some (.fr (.int at_)), some (.fr (.int many)), some (.fr (.int kind)), some (.fr (.int c))] = some (.nx [some (sxT cs y), some (.fr (.int at_)), some (.fr (.int many)), some (.fr (.int kind)), some (.fr (.int c))]) := by
              unfold s_law_next_6
              generalize s_law_next_7 = G
              simp [q1, k4, k5]
            exact fin ((seq_nx s1).trans ((seq_nx s3).trans ((seq_nx s4).trans ((seq_nx s6).trans last)))) lb.1 lb.2
      · have s6 : s_law_next_6 [some (sxT cs y), some (.fr (.int at_)), some (.fr (.int many)), some (.fr (.int kind)), some (.fr (.int c))] = some (.nx [some (sxT cs y), some (.fr (.int at_)), some (.fr (.int many)), some (.fr (.int kind)), some (.fr (.int c))]) := by
          unfold s_law_next_6
          generalize s_law_next_7 = G
          simp [q1]
        exact fin ((seq_nx s1).trans ((seq_nx s3).trans ((seq_nx s4).trans ((seq_nx s6).trans last)))) lb.1 lb.2
end
end Wk

namespace Wk
open PySem PySem.Spec PyProof.Rows L2 He Vl Gr
section
variable {cs : List Int}
def wE (cs : List Int) (x : Sx) (most many kind : Int) (rws : List D) (x5 x6 x7 x8 x9 x10 x11 : Option T) : Vl.Env := [some (sxT cs x), some (.fr (.int most)), some (.fr (.int many)), some (.fr (.int kind)), some (.lst rws), x5, x6, x7, x8, x9, x10, x11]
structure RowOk (many : Int) (r : Rw) : Prop where
  nx : ∀ g ∈ r.nx, 0 ≤ g ∧ g < many
  ar : r.nx.length ≤ 100
  act : ActOk r
  cl : r.act.cl = true
variable {x : Sx} {most many kind at_ : Int} {rws : List D} {x6 x7 x8 x9 x10 x11 : Option T}
theorem next_comp (h0 : 0 ≤ at_) (h1 : at_ < many) (hm : many ≤ 200) : ∀ {l : List Nat} {acc : List Int} {x : Sx}, acc.length + l.length ≤ 1000 → ∃ (vs : List Int) (y : Sx), compD [11] (gN 11) (Vl.ret true) (vCallG 4 F_law_next (vCons (vV 0) (vCons (vV 5) (vCons (vV 2) (vCons (vV 3) (vNil)))))) (l.map fun (k : Nat) => D.int k) (I acc) (wE cs x most many kind rws (some (.fr (.int at_))) x6 x7 x8 x9 x10 none) = some (I (acc ++ vs), wE cs y most many kind rws (some (.fr (.int at_))) x6 x7 x8 x9 x10 none) ∧ vs.length = l.length ∧ ∀ v ∈ vs, 0 ≤ v ∧ v < many
  | [], acc, x, _ => ⟨[], x, by simp [compD], rfl, fun v h => by cases h⟩
  | k :: l, acc, x, hl => by
    simp only [List.length_cons] at hl
    obtain ⟨v, y, f, a, b⟩ := next_F (cs := cs) (x := x) (kind := kind) h0 h1 hm
    have st : stepC [11] (gN 11) (Vl.ret true) (vCallG 4 F_law_next (vCons (vV 0) (vCons (vV 5) (vCons (vV 2) (vCons (vV 3) (vNil)))))) (.int (k : Nat)) (wE cs x most many kind rws (some (.fr (.int at_))) x6 x7 x8 x9 x10 none) = some (some (.int v), wE cs y most many kind rws (some (.fr (.int at_))) x6 x7 x8 x9 x10 none) := by
      simp [stepC, wipeE, wE, f]
    obtain ⟨vs, y2, ih, il, iv⟩ := next_comp h0 h1 hm (l := l) (acc := acc ++ [v]) (x := y) (by simp; omega)
    refine ⟨v :: vs, y2, ?_, by simp [il], fun w hw => (List.mem_cons.mp hw).elim (fun z => z ▸ ⟨a, b⟩) (iv w)⟩
    have hz : szL (I acc).length = true := by simp [szL]; omega
    rw [List.map_cons]
    unfold compD
    rw [st]
    simp only [hz, if_true]
    have e : I acc ++ [D.int v] = I (acc ++ [v]) := by simp [I]
    rw [e, ih]
    simp
theorem at_mem {l : List D} {v : Int} (h0 : 0 ≤ v) (h1 : v < l.length) : ∃ d ∈ l, L2.atI l v = some d := by
  obtain ⟨n, rfl⟩ := Int.eq_ofNat_of_zero_le h0
  have hn : n < l.length := by omega
  exact ⟨l[n], List.getElem_mem .., L2.atI_nat (List.getElem?_eq_getElem hn)⟩
/-- an act and where it goes -/
def ANx (many : Int) (act : D) (nx : List Int) : Prop := ∀ c : Int, RowOk many ⟨act, c, nx⟩
theorem a_ok {many : Int} {z : String} {rest : List D} {nx : List Int} (h1 : ∀ g ∈ nx, 0 ≤ g ∧ g < many) (h2 : nx.length ≤ 100) (h3 : D.cls rest = true) (h4 : z = "branch" → 2 ≤ nx.length) : ANx many (.tup (tagD z :: rest)) nx := fun c =>
  ⟨h1, h2, ⟨Str.ofString z, rest, rfl, strOk_of _, fun e => h4 (by simpa using e)⟩, by show (true && D.cls rest) = true; rw [h3]; rfl⟩
theorem rows_17 (h0 : 0 ≤ at_) (h1 : at_ < many) (hm : many ≤ 200) {ch : Int} : ∃ (act : D) (nx : List Int) (y : Sx), s_law_rows_17 (wE cs x most many kind rws (some (.fr (.int at_))) (some (.fr (.int ch))) x7 x8 x9 x10 x11) = some (.nx (wE cs y most many kind rws (some (.fr (.int at_))) (some (.fr (.int ch))) x7 (some (.fr act)) (some (.fr (.tup (I nx)))) x10 x11)) ∧ ANx many act nx := by
  have last : ∀ {x : Sx} {x8 x9 : Option T}, ∃ (act : D) (nx : List Int) (y : Sx), sSeq s_law_rows_21 s_law_rows_22 (wE cs x most many kind rws (some (.fr (.int at_))) (some (.fr (.int ch))) x7 x8 x9 x10 x11) = some (.nx (wE cs y most many kind rws (some (.fr (.int at_))) (some (.fr (.int ch))) x7 (some (.fr act)) (some (.fr (.tup (I nx)))) x10 x11)) ∧ ANx many act nx := fun {x x8 x9} => by
    obtain ⟨v, y, f, a, b⟩ := draw_F (cs := cs) (x := x) (m := 8) (by omega) (by omega)
    obtain ⟨w, y2, f2, a2, b2⟩ := next_F (cs := cs) (x := y) (kind := kind) h0 h1 hm
    let l8 : List D := [.tup [tagD "output", .tup [tagD "word", .int at_]], .tup [tagD "input", .int at_], .tup [tagD "pass"], .tup [tagD "assign", .int at_, .tup [tagD "word", .int 7]], .tup [tagD "need", .int at_], .tup [tagD "write", .tup [tagD "word", .int at_], .tup [tagD "variable", .int 0]], .tup [tagD "call", .tup [], .int 0, .tup [], .int at_], .tup [tagD "calls", .tup [.int at_], .tup [tagD "word", .int 0], .tup [.int 0, .int 1], .tup [.tup [tagD "word", .int at_]], .int 0]]
    obtain ⟨act, ha, e⟩ := at_mem (l := l8) a (by simp [l8]; omega)
    have one : ∀ g ∈ [w], 0 ≤ g ∧ g < many := fun g hg => by simp at hg; subst hg; exact ⟨a2, b2⟩
    have ok : ANx many act [w] := by
      simp only [l8, List.mem_cons, List.not_mem_nil, or_false] at ha
      rcases ha with rfl | rfl | rfl | rfl | rfl | rfl | rfl | rfl <;> exact a_ok one (by simp) (by rfl) (fun e => absurd e (by decide))
    refine ⟨act, [w], y2, ?_, ok⟩
    have s21 : s_law_rows_21 (wE cs x most many kind rws (some (.fr (.int at_))) (some (.fr (.int ch))) x7 x8 x9 x10 x11) = some (.nx (wE cs y most many kind rws (some (.fr (.int at_))) (some (.fr (.int ch))) x7 (some (.fr act)) x9 x10 x11)) := by
      simp only [l8, tagD] at e
      simp [s_law_rows_21, wE, f, e]
    have s22 : s_law_rows_22 (wE cs y most many kind rws (some (.fr (.int at_))) (some (.fr (.int ch))) x7 (some (.fr act)) x9 x10 x11) = some (.nx (wE cs y2 most many kind rws (some (.fr (.int at_))) (some (.fr (.int ch))) x7 (some (.fr act)) (some (.fr (.tup (I [w])))) x10 x11)) := by
      simp [s_law_rows_22, wE, f2, I]
    exact (seq_nx s21).trans s22
  have stop : ∀ {x : Sx} {x8 x9 : Option T}, ∃ (act : D) (nx : List Int) (y : Sx), sSeq s_law_rows_18 (sSetF 9 (vTup vNil)) (wE cs x most many kind rws (some (.fr (.int at_))) (some (.fr (.int ch))) x7 x8 x9 x10 x11) = some (.nx (wE cs y most many kind rws (some (.fr (.int at_))) (some (.fr (.int ch))) x7 (some (.fr act)) (some (.fr (.tup (I nx)))) x10 x11)) ∧ ANx many act nx := fun {x x8 x9} => by
    obtain ⟨v, y, f, a, b⟩ := draw_F (cs := cs) (x := x) (m := 4) (by omega) (by omega)
    let l4 : List D := [.tup [tagD "halt"], .tup [tagD "trap", .int at_], .tup [tagD "back", .tup [.tup [tagD "word", .int at_]]], .tup [tagD "lost"]]
    obtain ⟨act, ha, e⟩ := at_mem (l := l4) a (by simp [l4]; omega)
    have ok : ANx many act [] := by
      simp only [l4, List.mem_cons, List.not_mem_nil, or_false] at ha
      rcases ha with rfl | rfl | rfl | rfl <;> exact a_ok (fun g hg => by cases hg) (by simp) (by rfl) (fun e => absurd e (by decide))
    refine ⟨act, [], y, ?_, ok⟩
    have s18 : s_law_rows_18 (wE cs x most many kind rws (some (.fr (.int at_))) (some (.fr (.int ch))) x7 x8 x9 x10 x11) = some (.nx (wE cs y most many kind rws (some (.fr (.int at_))) (some (.fr (.int ch))) x7 (some (.fr act)) x9 x10 x11)) := by
      simp only [l4, tagD] at e
      simp [s_law_rows_18, wE, f, e]
    have s19 : (sSetF 9 (vTup vNil)) (wE cs y most many kind rws (some (.fr (.int at_))) (some (.fr (.int ch))) x7 (some (.fr act)) x9 x10 x11) = some (.nx (wE cs y most many kind rws (some (.fr (.int at_))) (some (.fr (.int ch))) x7 (some (.fr act)) (some (.fr (.tup (I [])))) x10 x11)) := by
      simp [wE, I]
    exact (seq_nx s18).trans s19
  unfold s_law_rows_17
  generalize sSeq s_law_rows_21 s_law_rows_22 = G2 at last
  generalize sSeq s_law_rows_18 (sSetF 9 (vTup vNil)) = G1 at stop
  have tst : ∃ (b : Bool) (y : Sx), (vOr (vAnd (bnd (vOp gEq (vV 6) (vC (.int 4))) asB) (bnd (vOp gLt (vV 3) (vC (.int 4))) asB)) (vAnd (bnd (vOp gEq (vOp gAdd (vV 5) (vC (.int 1))) (vV 2)) asB) (bnd (vOp gGt (vCallG 2 F_law_draw (vCons (vV 0) (vCons (vC (.int 3)) (vNil)))) (vC (.int 0))) asB))) (wE cs x most many kind rws (some (.fr (.int at_))) (some (.fr (.int ch))) x7 x8 x9 x10 x11) = some (.val b (wE cs y most many kind rws (some (.fr (.int at_))) (some (.fr (.int ch))) x7 x8 x9 x10 x11)) := by
    have right : ∃ (b : Bool) (y : Sx), (vAnd (bnd (vOp gEq (vOp gAdd (vV 5) (vC (.int 1))) (vV 2)) asB) (bnd (vOp gGt (vCallG 2 F_law_draw (vCons (vV 0) (vCons (vC (.int 3)) (vNil)))) (vC (.int 0))) asB)) (wE cs x most many kind rws (some (.fr (.int at_))) (some (.fr (.int ch))) x7 x8 x9 x10 x11) = some (.val b (wE cs y most many kind rws (some (.fr (.int at_))) (some (.fr (.int ch))) x7 x8 x9 x10 x11)) := by
      by_cases c1 : at_ + 1 = many
      · obtain ⟨v, y, f, a, b⟩ := draw_F (cs := cs) (x := x) (m := 3) (by omega) (by omega)
        exact ⟨decide (0 < v), y, by simp [wE, c1, f]⟩
      · exact ⟨false, x, by simp [wE, c1]⟩
    obtain ⟨b, y, hr⟩ := right
    generalize (vAnd (bnd (vOp gEq (vOp gAdd (vV 5) (vC (.int 1))) (vV 2)) asB) (bnd (vOp gGt (vCallG 2 F_law_draw (vCons (vV 0) (vCons (vC (.int 3)) (vNil)))) (vC (.int 0))) asB)) = G at hr
    simp [wE] at hr
    by_cases c1 : ch = 4
    · by_cases c2 : kind < 4
      · exact ⟨true, x, by simp [wE, c1, c2]⟩
      · exact ⟨b, y, by subst c1; simp [wE, c2, hr]⟩
    · exact ⟨b, y, by simp [wE, c1, hr]⟩
  obtain ⟨b, y, tst⟩ := tst
  generalize (vOr (vAnd (bnd (vOp gEq (vV 6) (vC (.int 4))) asB) (bnd (vOp gLt (vV 3) (vC (.int 4))) asB)) (vAnd (bnd (vOp gEq (vOp gAdd (vV 5) (vC (.int 1))) (vV 2)) asB) (bnd (vOp gGt (vCallG 2 F_law_draw (vCons (vV 0) (vCons (vC (.int 3)) (vNil)))) (vC (.int 0))) asB))) = G at tst
  cases b with
  | true =>
    obtain ⟨act, nx, z, e, ok⟩ := stop (x := y) (x8 := x8) (x9 := x9)
    exact ⟨act, nx, z, by simp [tst, e], ok⟩
  | false =>
    obtain ⟨act, nx, z, e, ok⟩ := last (x := y) (x8 := x8) (x9 := x9)
    exact ⟨act, nx, z, by simp [tst, e], ok⟩
end
end Wk

namespace Wk
open PySem PySem.Spec PyProof.Rows L2 He Vl Gr
section
variable {cs : List Int}
variable {x : Sx} {most many kind at_ : Int} {rws : List D} {x6 x7 x8 x9 x10 x11 : Option T}
theorem vLc_ev {n : Nat} {vs : List Nat} {fi : FG (List D)} {gt : FT} {ft : FG Bool} {fe : FE} {ρ ρ1 ρ2 : Vl.Env} {ds l : List D} (h1 : fi ρ = some (.val ds ρ1)) (h2 : ρ1.length ≤ n) (h3 : compD vs gt ft fe ds [] (wipeE ρ1 vs) = some (l, ρ2)) : vLc n vs fi gt ft fe ρ = some (.val (.nw (.lst l)) ρ2) := by
  unfold vLc bnd
  rw [h1]
  simp only [kLc, h2, if_true, h3]
theorem rows_10 (h0 : 0 ≤ at_) (h1 : at_ < many) (hm : many ≤ 200) {ch : Int} : ∃ (act : D) (nx : List Int) (y : Sx) (y10 y11 : Option T), s_law_rows_10 (wE cs x most many kind rws (some (.fr (.int at_))) (some (.fr (.int ch))) x7 x8 x9 x10 x11) = some (.nx (wE cs y most many kind rws (some (.fr (.int at_))) (some (.fr (.int ch))) x7 (some (.fr act)) (some (.fr (.tup (I nx)))) y10 y11)) ∧ ANx many act nx := by
  by_cases c2 : ch ≤ 2
  · obtain ⟨v, y, f, a, b⟩ := next_F (cs := cs) (x := x) (kind := kind) h0 h1 hm
    obtain ⟨w, z, f2, a2, b2⟩ := next_F (cs := cs) (x := y) (kind := kind) h0 h1 hm
    refine ⟨.tup [tagD "branch", .tup [tagD "variable", .int at_]], [v, w], z, x10, x11, ?_, a_ok (fun g hg => by
      simp only [List.mem_cons, List.not_mem_nil, or_false] at hg
      rcases hg with rfl | rfl
      · exact ⟨a, b⟩
      · exact ⟨a2, b2⟩) (by simp) (by rfl) (fun _ => by simp)⟩
    have s11 : s_law_rows_11 (wE cs x most many kind rws (some (.fr (.int at_))) (some (.fr (.int ch))) x7 x8 x9 x10 x11) = some (.nx (wE cs x most many kind rws (some (.fr (.int at_))) (some (.fr (.int ch))) x7 (some (.fr (.tup [tagD "branch", .tup [tagD "variable", .int at_]]))) x9 x10 x11)) := by
      simp [s_law_rows_11, wE]
    have s12 : s_law_rows_12 (wE cs x most many kind rws (some (.fr (.int at_))) (some (.fr (.int ch))) x7 (some (.fr (.tup [tagD "branch", .tup [tagD "variable", .int at_]]))) x9 x10 x11) = some (.nx (wE cs z most many kind rws (some (.fr (.int at_))) (some (.fr (.int ch))) x7 (some (.fr (.tup [tagD "branch", .tup [tagD "variable", .int at_]]))) (some (.fr (.tup (I [v, w])))) x10 x11)) := by
      simp [s_law_rows_12, wE, f, f2, I]
    have all := (seq_nx s11).trans s12
    unfold s_law_rows_10
    generalize sSeq s_law_rows_11 s_law_rows_12 = G at all
    simp [wE, c2] at all ⊢
    simp [all]
  have go : ∀ {o}, s_law_rows_13 (wE cs x most many kind rws (some (.fr (.int at_))) (some (.fr (.int ch))) x7 x8 x9 x10 x11) = o → s_law_rows_10 (wE cs x most many kind rws (some (.fr (.int at_))) (some (.fr (.int ch))) x7 x8 x9 x10 x11) = o := fun {o} e => by
    unfold s_law_rows_10
    generalize s_law_rows_13 = G at e
    generalize sSeq s_law_rows_11 s_law_rows_12 = G2
    simp [wE, c2] at e ⊢
    exact e
  by_cases c3 : ch = 3
  · have s14 : s_law_rows_14 (wE cs x most many kind rws (some (.fr (.int at_))) (some (.fr (.int ch))) x7 x8 x9 x10 x11) = some (.nx (wE cs x most many kind rws (some (.fr (.int at_))) (some (.fr (.int ch))) x7 (some (.fr (.tup [tagD "select", .tup [tagD "variable", .int at_]]))) x9 x10 x11)) := by
      simp [s_law_rows_14, wE]
    have s15 : ∀ {x8 : Option T}, ∃ (arms : Int) (y : Sx), s_law_rows_15 (wE cs x most many kind rws (some (.fr (.int at_))) (some (.fr (.int ch))) x7 x8 x9 x10 x11) = some (.nx (wE cs y most many kind rws (some (.fr (.int at_))) (some (.fr (.int ch))) x7 x8 x9 (some (.fr (.int arms))) x11)) ∧ 1 ≤ arms ∧ arms ≤ 16 := fun {x8} => by
      have g1 : big64 12 1 = true := by decide
      have g0 : big64 12 0 = true := by decide
      have i1 : gInt [.bl true] = some (.fr (.int 1)) := rfl
      have i0 : gInt [.bl false] = some (.fr (.int 0)) := rfl
      by_cases c10 : many < 10
      · obtain ⟨w, y, f, a, b⟩ := draw_F (cs := cs) (x := x) (m := 4) (by omega) (by omega)
        by_cases w1 : w = 1
        · obtain ⟨u, z, f2, a2, b2⟩ := draw_F (cs := cs) (x := y) (m := 16) (by omega) (by omega)
          exact ⟨1 + u, z, by simp [s_law_rows_15, wE, c10, f, w1, g1, i1, f2], by omega, by omega⟩
        · obtain ⟨u, z, f2, a2, b2⟩ := draw_F (cs := cs) (x := y) (m := 4) (by omega) (by omega)
          have w2 : (w == 1) = false := beq_false_of_ne w1
          exact ⟨1 + u, z, by simp [s_law_rows_15, wE, c10, f, w1, w2, g0, i0, f2], by omega, by omega⟩
      · obtain ⟨u, z, f2, a2, b2⟩ := draw_F (cs := cs) (x := x) (m := 4) (by omega) (by omega)
        exact ⟨1 + u, z, by simp [s_law_rows_15, wE, c10, g0, i0, f2], by omega, by omega⟩
    obtain ⟨arms, y, s15, l1, l16⟩ := s15 (x8 := some (.fr (.tup [tagD "select", .tup [tagD "variable", .int at_]])))
    obtain ⟨vs, z, cp, lv, vv⟩ := next_comp (cs := cs) (most := most) (kind := kind) (rws := rws) (x6 := some (.fr (.int ch))) (x7 := x7) (x8 := some (.fr (.tup [tagD "select", .tup [tagD "variable", .int at_]]))) (x9 := x9) (x10 := some (.fr (.int arms))) h0 h1 hm (l := List.range arms.toNat) (acc := []) (x := y) (by simp; omega)
    have d := dR1_int (i := arms) (by omega) (by omega)
    have lc : vLc 12 [11] (bnd (vCons (vV 10) (vNil)) fun ws => optF (dR1 ws)) (gN 11) (Vl.ret true) (vCallG 4 F_law_next (vCons (vV 0) (vCons (vV 5) (vCons (vV 2) (vCons (vV 3) (vNil)))))) (wE cs y most many kind rws (some (.fr (.int at_))) (some (.fr (.int ch))) x7 (some (.fr (.tup [tagD "select", .tup [tagD "variable", .int at_]]))) x9 (some (.fr (.int arms))) x11) = some (.val (.nw (.lst (I vs))) (wE cs z most many kind rws (some (.fr (.int at_))) (some (.fr (.int ch))) x7 (some (.fr (.tup [tagD "select", .tup [tagD "variable", .int at_]]))) x9 (some (.fr (.int arms))) none)) := by
      have e1 : (bnd (vCons (vV 10) (vNil)) fun ws => optF (dR1 ws)) (wE cs y most many kind rws (some (.fr (.int at_))) (some (.fr (.int ch))) x7 (some (.fr (.tup [tagD "select", .tup [tagD "variable", .int at_]]))) x9 (some (.fr (.int arms))) x11) = some (.val ((List.range arms.toNat).map fun (k : Nat) => D.int k) (wE cs y most many kind rws (some (.fr (.int at_))) (some (.fr (.int ch))) x7 (some (.fr (.tup [tagD "select", .tup [tagD "variable", .int at_]]))) x9 (some (.fr (.int arms))) x11)) := by
        simp [wE, d]
      exact vLc_ev e1 (by simp [wE]) cp
    have s16 : s_law_rows_16 (wE cs y most many kind rws (some (.fr (.int at_))) (some (.fr (.int ch))) x7 (some (.fr (.tup [tagD "select", .tup [tagD "variable", .int at_]]))) x9 (some (.fr (.int arms))) x11) = some (.nx (wE cs z most many kind rws (some (.fr (.int at_))) (some (.fr (.int ch))) x7 (some (.fr (.tup [tagD "select", .tup [tagD "variable", .int at_]]))) (some (.fr (.tup (I vs)))) (some (.fr (.int arms))) none)) := by
      unfold s_law_rows_16
      generalize vLc 12 [11] (bnd (vCons (vV 10) (vNil)) fun ws => optF (dR1 ws)) (gN 11) (Vl.ret true) (vCallG 4 F_law_next (vCons (vV 0) (vCons (vV 5) (vCons (vV 2) (vCons (vV 3) (vNil)))))) = G at lc
      simp [wE] at lc
      simp [wE, lc]
    simp only [List.length_range] at lv
    refine ⟨.tup [tagD "select", .tup [tagD "variable", .int at_]], vs, z, some (.fr (.int arms)), none, go ?_, a_ok vv (by omega) (by rfl) (fun e => absurd e (by decide))⟩
    have all := (seq_nx s14).trans ((seq_nx s15).trans s16)
    unfold s_law_rows_13
    generalize sSeq s_law_rows_14 (sSeq s_law_rows_15 s_law_rows_16) = G at all
    simp [wE, c3] at all ⊢
    simp [all]
  · obtain ⟨act, nx, y, e, ok⟩ := rows_17 (cs := cs) (x := x) (most := most) (kind := kind) (rws := rws) (ch := ch) (x7 := x7) (x8 := x8) (x9 := x9) (x10 := x10) (x11 := x11) h0 h1 hm
    refine ⟨act, nx, y, x10, x11, go ?_, ok⟩
    unfold s_law_rows_13
    generalize s_law_rows_17 = G at e
    generalize sSeq s_law_rows_14 (sSeq s_law_rows_15 s_law_rows_16) = G2
    simp [wE, c3] at e ⊢
    simp [e]
theorem rows_round (h0 : 0 ≤ at_) (h1 : at_ < many) (hm : many ≤ 200) (hr : rws.length ≤ 1000) : ∃ (r : Rw) (y : Sx) (y6 y7 y8 y9 y10 y11 : Option T), b_law_rows_7 (wE cs x most many kind rws (some (.fr (.int at_))) x6 x7 x8 x9 x10 x11) = some (.nx (wE cs y most many kind (rws ++ [rwD r]) (some (.fr (.int at_))) y6 y7 y8 y9 y10 y11)) ∧ RowOk many r := by
  obtain ⟨ch, y, f, _, _⟩ := draw_F (cs := cs) (x := x) (m := 8) (by omega) (by omega)
  obtain ⟨c, z, f2, _, _⟩ := draw_F (cs := cs) (x := y) (m := 3) (by omega) (by omega)
  have s8 : s_law_rows_8 (wE cs x most many kind rws (some (.fr (.int at_))) x6 x7 x8 x9 x10 x11) = some (.nx (wE cs y most many kind rws (some (.fr (.int at_))) (some (.fr (.int ch))) x7 x8 x9 x10 x11)) := by
    simp [s_law_rows_8, wE, f]
  have s9 : s_law_rows_9 (wE cs y most many kind rws (some (.fr (.int at_))) (some (.fr (.int ch))) x7 x8 x9 x10 x11) = some (.nx (wE cs z most many kind rws (some (.fr (.int at_))) (some (.fr (.int ch))) (some (.fr (.int (1 + c)))) x8 x9 x10 x11)) := by
    simp [s_law_rows_9, wE, f2]
  obtain ⟨act, nx, u, y10, y11, s10, ok⟩ := rows_10 (cs := cs) (x := z) (most := most) (kind := kind) (rws := rws) (ch := ch) (x7 := some (.fr (.int (1 + c)))) (x8 := x8) (x9 := x9) (x10 := x10) (x11 := x11) h0 h1 hm
  have s23 : s_law_rows_23 (wE cs u most many kind rws (some (.fr (.int at_))) (some (.fr (.int ch))) (some (.fr (.int (1 + c)))) (some (.fr act)) (some (.fr (.tup (I nx)))) y10 y11) = some (.nx (wE cs u most many kind (rws ++ [rwD ⟨act, 1 + c, nx⟩]) (some (.fr (.int at_))) (some (.fr (.int ch))) (some (.fr (.int (1 + c)))) (some (.fr act)) (some (.fr (.tup (I nx)))) y10 y11)) := by
    have hz : rws.length < 16777216 := by omega
    simp [s_law_rows_23, wE, hz, rwD]
  exact ⟨⟨act, 1 + c, nx⟩, u, _, _, _, _, _, _, (seq_nx s8).trans ((seq_nx s9).trans ((seq_nx s10).trans s23)), ok (1 + c)⟩
theorem rows_F {x : Sx} {most : Int} (hm : 1 ≤ most) (hm2 : most ≤ 120) : ∃ (rs : List Rw) (y : Sx), F_law_rows [sxT cs x, .fr (.int most)] = some (.ret (.lst (rs.map rwD)) [sxT cs y, .fr (.int most)]) ∧ 1 ≤ rs.length ∧ rs.length ≤ 120 ∧ ∀ r ∈ rs, RowOk rs.length r := by
  obtain ⟨v, y, f, a, b⟩ := draw_F (cs := cs) (x := x) (m := most) (by omega) (by omega)
  obtain ⟨kd, z, f2, _, _⟩ := draw_F (cs := cs) (x := y) (m := 4) (by omega) (by omega)
  have s1 : s_law_rows_1 [some (sxT cs x), some (.fr (.int most)), none, none, none, none, none, none, none, none, none, none] = some (.nx [some (sxT cs y), some (.fr (.int most)), some (.fr (.int (1 + v))), none, none, none, none, none, none, none, none, none]) := by
    simp [s_law_rows_1, f]
  have s2 : s_law_rows_2 [some (sxT cs y), some (.fr (.int most)), some (.fr (.int (1 + v))), none, none, none, none, none, none, none, none, none] = some (.nx [some (sxT cs z), some (.fr (.int most)), some (.fr (.int (1 + v))), some (.fr (.int kd)), none, none, none, none, none, none, none, none]) := by
    simp [s_law_rows_2, f2]
  have s3 : ∃ (many kind : Int) (u : Sx), s_law_rows_3 [some (sxT cs z), some (.fr (.int most)), some (.fr (.int (1 + v))), some (.fr (.int kd)), none, none, none, none, none, none, none, none] = some (.nx [some (sxT cs u), some (.fr (.int most)), some (.fr (.int many)), some (.fr (.int kind)), none, none, none, none, none, none, none, none]) ∧ 1 ≤ many ∧ many ≤ 120 := by
    by_cases c : 24 < most
    · obtain ⟨w, u, f3, a3, b3⟩ := draw_F (cs := cs) (x := z) (m := 96) (by omega) (by omega)
      obtain ⟨w2, u2, f4, a4, b4⟩ := draw_F (cs := cs) (x := u) (m := 2) (by omega) (by omega)
      have e4 : s_law_rows_4 [some (sxT cs z), some (.fr (.int most)), some (.fr (.int (1 + v))), some (.fr (.int kd)), none, none, none, none, none, none, none, none] = some (.nx [some (sxT cs u), some (.fr (.int most)), some (.fr (.int (25 + w))), some (.fr (.int kd)), none, none, none, none, none, none, none, none]) := by
        simp [s_law_rows_4, f3]
      have e5 : s_law_rows_5 [some (sxT cs u), some (.fr (.int most)), some (.fr (.int (25 + w))), some (.fr (.int kd)), none, none, none, none, none, none, none, none] = some (.nx [some (sxT cs u2), some (.fr (.int most)), some (.fr (.int (25 + w))), some (.fr (.int (4 + w2))), none, none, none, none, none, none, none, none]) := by
        simp [s_law_rows_5, f4]
      refine ⟨25 + w, 4 + w2, u2, ?_, by omega, by omega⟩
      have all := (seq_nx e4).trans e5
      unfold s_law_rows_3
      generalize sSeq s_law_rows_4 s_law_rows_5 = G at all
      simp [c, all]
    · refine ⟨1 + v, kd, z, ?_, by omega, by omega⟩
      unfold s_law_rows_3
      generalize sSeq s_law_rows_4 s_law_rows_5 = G
      simp [c]
  obtain ⟨many, kind, u, s3, m1, m2⟩ := s3
  have s4 : (sSet 4 (vLst (vNil))) [some (sxT cs u), some (.fr (.int most)), some (.fr (.int many)), some (.fr (.int kind)), none, none, none, none, none, none, none, none] = some (.nx (wE cs u most many kind [] none none none none none none none)) := by
    simp [wE]
  let R : Nat → Vl.Env → Prop := fun k ρ => ∃ (rs : List Rw) (y : Sx) (x5 x6 x7 x8 x9 x10 x11 : Option T), ρ = wE cs y most many kind (rs.map rwD) x5 x6 x7 x8 x9 x10 x11 ∧ rs.length = k ∧ ∀ r ∈ rs, RowOk many r
  obtain ⟨ρ', lp, rs, y2, x5, x6, x7, x8, x9, x10, x11, e, l, ok⟩ := loop_ix (gt := gN 5) (f := b_law_rows_7) (n := many.toNat) R (fun k hk ρ r => by
    obtain ⟨rs, y, x5, x6, x7, x8, x9, x10, x11, e, l, ok⟩ := r
    subst e
    obtain ⟨r, y2, y6, y7, y8, y9, y10, y11, rd, ro⟩ := rows_round (cs := cs) (x := y) (most := most) (many := many) (kind := kind) (at_ := (k : Nat)) (rws := rs.map rwD) (x6 := x6) (x7 := x7) (x8 := x8) (x9 := x9) (x10 := x10) (x11 := x11) (by omega) (by omega) (by omega) (by simp; omega)
    refine ⟨_, _, rfl, rd, rs ++ [r], y2, some (.fr (.int (k : Nat))), y6, y7, y8, y9, y10, y11, by simp, by simp [l], fun q hq => ?_⟩
    rcases List.mem_append.mp hq with w | w
    · exact ok q w
    · simp at w; subst w; exact ro) (ρ := wE cs u most many kind [] none none none none none none none) ⟨[], u, none, none, none, none, none, none, none, rfl, rfl, fun r h => by cases h⟩
  have d := dR1_int (i := many) (by omega) (by omega)
  have s7 : s_law_rows_7 (wE cs u most many kind [] none none none none none none none) = some (.nx ρ') := (for_val (by simp [wE, d])).trans lp
  have lm : (rs.length : Int) = many := by omega
  refine ⟨rs, y2, body_ret (w := .al 4) (ρ := ρ') rfl ?_ (by subst e; rfl) (by subst e; rfl), by omega, by omega, fun r hr => by rw [lm]; exact ok r hr⟩
  show g_law_rows [some (sxT cs x), some (.fr (.int most)), none, none, none, none, none, none, none, none, none, none] = _
  unfold g_law_rows
  rw [seq_nx s1, seq_nx s2, seq_nx s3, seq_nx s4, seq_nx s7]
  subst e
  simp [wE]
end
end Wk

namespace Wk
open PySem PySem.Spec PyProof.Rows L2 He Vl Gr
theorem drawn_F (ns : List Int) : ∃ (rs : List Rw) (s : Int) (y : Sx), F_law_drawn [.fr (.klst (I ns))] = some (.ret (.tl [.fr (RL rs), .fr (.int s), sxT ns y]) [.fr (.klst (I ns))]) ∧ OkR rs ∧ (∀ r ∈ rs, ActOk r) ∧ D.cls (rs.map rwD) = true ∧ Vd rs s := by
  have s1 : s_law_drawn_1 [some (.fr (.klst (I ns))), none, none, none, none] = some (.nx [some (.fr (.klst (I ns))), some (sxT ns ⟨0, 0, 1⟩), none, none, none]) := by
    simp [s_law_drawn_1]
    rfl
  have s2 : (sSetF 2 (vC (.int 9))) [some (.fr (.klst (I ns))), some (sxT ns ⟨0, 0, 1⟩), none, none, none] = some (.nx [some (.fr (.klst (I ns))), some (sxT ns ⟨0, 0, 1⟩), some (.fr (.int 9)), none, none]) := by simp
  obtain ⟨v1, y1, f1, _, _⟩ := draw_F (cs := ns) (x := ⟨0, 0, 1⟩) (m := 6) (by omega) (by omega)
  have s3 : ∃ m : Int, s_law_drawn_3 [some (.fr (.klst (I ns))), some (sxT ns ⟨0, 0, 1⟩), some (.fr (.int 9)), none, none] = some (.nx [some (.fr (.klst (I ns))), some (sxT ns y1), some (.fr (.int m)), none, none]) ∧ 1 ≤ m ∧ m ≤ 120 := by
    by_cases c : v1 = 3
    · exact ⟨24, by simp [s_law_drawn_3, f1, c], by omega, by omega⟩
    · exact ⟨9, by simp [s_law_drawn_3, f1, c], by omega, by omega⟩
  obtain ⟨m, s3, m1, m2⟩ := s3
  obtain ⟨v2, y2, f2, _, _⟩ := draw_F (cs := ns) (x := y1) (m := 16) (by omega) (by omega)
  have s5 : ∃ m' : Int, s_law_drawn_5 [some (.fr (.klst (I ns))), some (sxT ns y1), some (.fr (.int m)), none, none] = some (.nx [some (.fr (.klst (I ns))), some (sxT ns y2), some (.fr (.int m')), none, none]) ∧ 1 ≤ m' ∧ m' ≤ 120 := by
    by_cases c : v2 = 5
    · exact ⟨120, by simp [s_law_drawn_5, f2, c], by omega, by omega⟩
    · exact ⟨m, by simp [s_law_drawn_5, f2, c], by omega, by omega⟩
  obtain ⟨m', s5, m1', m2'⟩ := s5
  obtain ⟨rs, y3, f3, l1, l2, ok⟩ := rows_F (cs := ns) (x := y2) m1' m2'
  have s7 : s_law_drawn_7 [some (.fr (.klst (I ns))), some (sxT ns y2), some (.fr (.int m')), none, none] = some (.nx [some (.fr (.klst (I ns))), some (sxT ns y3), some (.fr (.int m')), some (.fr (RL rs)), none]) := by
    simp [s_law_drawn_7, f3]
  have s8 : (sSetF 4 (vC (.int 0))) [some (.fr (.klst (I ns))), some (sxT ns y3), some (.fr (.int m')), some (.fr (RL rs)), none] = some (.nx [some (.fr (.klst (I ns))), some (sxT ns y3), some (.fr (.int m')), some (.fr (RL rs)), some (.fr (.int 0))]) := by simp
  obtain ⟨v4, y4, f4, _, _⟩ := draw_F (cs := ns) (x := y3) (m := 4) (by omega) (by omega)
  have s9 : ∃ (s : Int) (y : Sx), s_law_drawn_9 [some (.fr (.klst (I ns))), some (sxT ns y3), some (.fr (.int m')), some (.fr (RL rs)), some (.fr (.int 0))] = some (.nx [some (.fr (.klst (I ns))), some (sxT ns y), some (.fr (.int m')), some (.fr (RL rs)), some (.fr (.int s))]) ∧ Vd rs s := by
    by_cases c : v4 = 1
    · obtain ⟨v5, y5, f5, a5, b5⟩ := draw_F (cs := ns) (x := y4) (m := rs.length) (by omega) (by omega)
      have e10 : s_law_drawn_10 [some (.fr (.klst (I ns))), some (sxT ns y4), some (.fr (.int m')), some (.fr (RL rs)), some (.fr (.int 0))] = some (.nx [some (.fr (.klst (I ns))), some (sxT ns y5), some (.fr (.int m')), some (.fr (RL rs)), some (.fr (.int v5))]) := by
        simp [s_law_drawn_10, RL, f5]
      refine ⟨v5, y5, ?_, a5, b5⟩
      unfold s_law_drawn_9
      generalize s_law_drawn_10 = G at e10
      simp [f4, c, e10]
    · refine ⟨0, y4, ?_, by omega, by omega⟩
      unfold s_law_drawn_9
      generalize s_law_drawn_10 = G
      simp [f4, c]
  obtain ⟨s, y, s9, vs⟩ := s9
  have cl : ∀ l : List Rw, (∀ r ∈ l, r.act.cl = true) → D.cls (l.map rwD) = true := by
    intro l
    induction l with
    | nil => intro _; rfl
    | cons r l ih =>
      intro h
      have h1 := h r List.mem_cons_self
      have h2 := ih fun q hq => h q (List.mem_cons_of_mem _ hq)
      show (D.cls [r.act, .int r.cnt, .tup (I r.nx)] && D.cls (l.map rwD)) = true
      rw [h2]
      show ((r.act.cl && (true && (D.cls (I r.nx) && true))) && true) = true
      rw [h1, cls_I]
      rfl
  refine ⟨rs, s, y, body_ret (w := .nw (.tl [.fr (RL rs), .fr (.int s), sxT ns y])) (ρ := [some (.fr (.klst (I ns))), none, some (.fr (.int m')), some (.fr (RL rs)), some (.fr (.int s))]) rfl ?_ rfl rfl, ⟨fun r hr g hg => (ok r hr).nx g hg, fun r hr => (ok r hr).ar, l2⟩, fun r hr => (ok r hr).act, cl rs fun r hr => (ok r hr).cl, vs⟩
  show g_law_drawn [some (.fr (.klst (I ns))), none, none, none, none] = _
  unfold g_law_drawn
  rw [seq_nx s1, seq_nx s2, seq_nx s3, seq_nx s5, seq_nx s7, seq_nx s8, seq_nx s9]
  simp [s_law_drawn_11, vLstP, kLstP]
section
variable {sc : T} {ns : List Int} {rs : List Rw} {s : Int}
def lE (sc : T) (ns : List Int) (rs : List Rw) (s : Int) (y : Sx) (x3 x4 x5 : Option T) : Vl.Env := [some sc, some (.tl [.fr (RL rs), .fr (.int s), sxT ns y]), some (.fr (RL rs)), x3, x4, x5]
theorem check (O : OkR rs) (A : ∀ r ∈ rs, ActOk r) (hcl : D.cls (rs.map rwD) = true) {f : Int} (hf : Vd rs f) {y : Sx} {x3 x5 : Option T} : ∃ y5, sSeq s_law_7 s_law_8 (lE sc ns rs s y x3 (some (.fr (.int f))) x5) = some (.nx (lE sc ns rs s y x3 (some (.fr (.int f))) y5)) := by
  obtain ⟨l, t, tf, el, T⟩ := outline_F O A hf
  obtain ⟨b, rf, hb⟩ := red_F O hcl hf
  have s7 : s_law_7 (lE sc ns rs s y x3 (some (.fr (.int f))) x5) = some (.nx (lE sc ns rs s y x3 (some (.fr (.int f))) (some (.fr t)))) := by
    have tf : F_outline [.fr (.lst (rs.map rwD)), .fr (.int f)] = some (.ret (.fr t) [.fr (.lst (rs.map rwD)), .fr (.int f)]) := tf
    simp [s_law_7, lE, RL, tf]
  refine ⟨some (.fr t), (seq_nx s7).trans ?_⟩
  have ki : ∀ l : List D, gIsi (kfOf iL) [.tup l, .ty "tuple"] = some (.fr (.bl true)) := fun _ => rfl
  have nb : ∀ b : Bool, gNe (.bl b) (.bl b) = some (.fr (.bl false)) := fun b => by cases b <;> rfl
  have main : ∀ {a : String} {l : List D}, t = .tup (tagD a :: l) → decide (a = "structured") = b → s_law_8 (lE sc ns rs s y x3 (some (.fr (.int f))) (some (.fr t))) = some (.nx (lE sc ns rs s y x3 (some (.fr (.int f))) (some (.fr t)))) := fun {a l} e1 e2 => by
    subst e1
    have a0 : L2.atI (tagD a :: l) 0 = some (tagD a) := L2.atI_nat (j := 0) (by rfl)
    have q : gEq (tagD a) (tagD "structured") = some (.fr (.bl b)) := by
      rw [eqi_str (strOk_of _) (strOk_of _), ← e2]
      by_cases c : a = "structured"
      · subst c; simp
      · have : ¬ Str.ofString a = Str.ofString "structured" := by simpa using c
        simp [c, beq_false_of_ne this]
    simp [s_law_8, lE, ki, a0, q, rf, nb]
  rcases T with ⟨⟨ds, _, e⟩, st⟩ | ⟨⟨a, b2, e⟩, st⟩
  · rw [el] at st
    have : b = true := hb.mpr st
    exact main e (by rw [this]; decide)
  · rw [el] at st
    have : b = false := by
      cases b with
      | false => rfl
      | true => exact absurd (hb.mp rfl) st
    exact main e (by rw [this]; decide)
end
theorem plain (ns : List Int) (h63 : ns.length ≤ 63) (_ : ∀ z ∈ ns, Builtin.Int.intBits z ≤ 1048576) : ∃ ts', F_law [.fr (.klst (ns.map .int))] = some (.ret (.fr (.bl true)) ts') := by
  obtain ⟨rs, s, y, df, O, A, hcl, vs⟩ := drawn_F ns
  have s1 : s_law_1 [some (.fr (.klst (I ns))), none, none, none, none, none] = some (.nx [some (.fr (.klst (I ns))), some (.tl [.fr (RL rs), .fr (.int s), sxT ns y]), none, none, none, none]) := by
    simp [s_law_1, df]
    rfl
  generalize hsc : T.fr (.klst (I ns)) = sc at s1
  have s2 : (sSetF 2 (vPt 1 0)) [some sc, some (.tl [.fr (RL rs), .fr (.int s), sxT ns y]), none, none, none, none] = some (.nx (lE sc ns rs s y none none none)) := by
    simp [vPt, lE]
  have r4 : ∀ {y : Sx} {x3 x4 x5 : Option T}, (sSetF 4 (vPt 1 1)) (lE sc ns rs s y x3 x4 x5) = some (.nx (lE sc ns rs s y x3 (some (.fr (.int s))) x5)) := fun {y x3 x4 x5} => by
    simp [vPt, lE]
  have rnd0 : ∀ {x4 x5 : Option T}, ∃ y5, b_law_3 (lE sc ns rs s y (some (.fr (.int 0))) x4 x5) = some (.nx (lE sc ns rs s y (some (.fr (.int 0))) (some (.fr (.int s))) y5)) := fun {x4 x5} => by
    obtain ⟨y5, e⟩ := check (sc := sc) (ns := ns) (s := s) (y := y) (x3 := some (.fr (.int 0))) (x5 := x5) O A hcl vs
    refine ⟨y5, (seq_nx r4).trans ((seq_nx ?_).trans e)⟩
    unfold s_law_5
    generalize s_law_6 = G
    simp [lE]
  have len1 := vs.2
  have few := O.few
  have rnd1 : ∀ {x4 x5 : Option T}, ∃ (z : Sx) (f : Int) (y5 : Option T), b_law_3 (lE sc ns rs s y (some (.fr (.int 1))) x4 x5) = some (.nx (lE sc ns rs s z (some (.fr (.int 1))) (some (.fr (.int f))) y5)) := fun {x4 x5} => by
    obtain ⟨f, z, e, a, b⟩ := draw_F (cs := ns) (x := y) (m := rs.length) (by have := vs.1; omega) (by omega)
    obtain ⟨y5, e2⟩ := check (sc := sc) (ns := ns) (s := s) (y := z) (x3 := some (.fr (.int 1))) (x5 := x5) O A hcl ⟨a, b⟩
    have s6 : s_law_6 (lE sc ns rs s y (some (.fr (.int 1))) (some (.fr (.int s))) x5) = some (.nx (lE sc ns rs s z (some (.fr (.int 1))) (some (.fr (.int f))) x5)) := by
      have tk : takeA [some sc, some (.tl [.fr (.lst (rs.map rwD)), .fr (.int s), sxT ns y]), some (.fr (.lst (rs.map rwD))), some (.fr (.int 1)), some (.fr (.int s)), x5] [.pt 1 2, .fr (.int rs.length)] = some ([sxT ns y, .fr (.int rs.length)], [some sc, some (.tl [.fr (.lst (rs.map rwD)), .fr (.int s), .hole]), some (.fr (.lst (rs.map rwD))), some (.fr (.int 1)), some (.fr (.int s)), x5]) := rfl
      have gv : giveA [some sc, some (.tl [.fr (.lst (rs.map rwD)), .fr (.int s), .hole]), some (.fr (.lst (rs.map rwD))), some (.fr (.int 1)), some (.fr (.int s)), x5] [.pt 1 2, .fr (.int rs.length)] [sxT ns z, .fr (.int rs.length)] = [some sc, some (.tl [.fr (.lst (rs.map rwD)), .fr (.int s), sxT ns z]), some (.fr (.lst (rs.map rwD))), some (.fr (.int 1)), some (.fr (.int s)), x5] := rfl
      simp [s_law_6, lE, vPt, RL, tk, e, gv]
    refine ⟨z, f, y5, (seq_nx r4).trans ((seq_nx ?_).trans e2)⟩
    unfold s_law_5
    generalize s_law_6 = G at s6
    simp [lE] at s6
    simp [lE, s6]
  obtain ⟨y5, e0⟩ := rnd0 (x4 := none) (x5 := none)
  obtain ⟨z, f, y5', e1⟩ := rnd1 (x4 := some (.fr (.int s))) (x5 := y5)
  have s3 : s_law_3 (lE sc ns rs s y none none none) = some (.nx (lE sc ns rs s z (some (.fr (.int 1))) (some (.fr (.int f))) y5')) := by
    refine (for_val (ds := [.int 0, .int 1]) (ρ1 := lE sc ns rs s y none none none) (by simp [lE]; rfl)).trans ?_
    have g0 : gN 3 (.int 0) (lE sc ns rs s y none none none) = some (lE sc ns rs s y (some (.fr (.int 0))) none none) := rfl
    have g1 : gN 3 (.int 1) (lE sc ns rs s y (some (.fr (.int 0))) (some (.fr (.int s))) y5) = some (lE sc ns rs s y (some (.fr (.int 1))) (some (.fr (.int s))) y5) := rfl
    unfold loopD
    rw [g0]
    simp only [e0]
    unfold loopD
    rw [g1]
    simp only [e1]
    rfl
  have hs2 : T.fr (.klst (ns.map .int)) = sc := hsc
  rw [hs2]
  refine ⟨[sc], body_ret (w := .fr (.bl true)) (ρ := lE sc ns rs s z (some (.fr (.int 1))) (some (.fr (.int f))) y5') (by subst hsc; rfl) ?_ rfl (by subst hsc; rfl)⟩
  show g_law [some sc, none, none, none, none, none] = _
  rw [← hsc] at s1 ⊢
  unfold g_law
  rw [seq_nx s1]
  rw [hsc, seq_nx s2, seq_nx s3]
  simp
end Wk

namespace Wk
open PySem PySem.Spec PyProof.Rows L2 He Vl
abbrev R : PySem.W.OpenRow := PySem.W.OpenLaw.row PySem.Challenge.rw_rewoven_k28_whole_tangled_exactly
def rts0 : List PySem.Str := ["law", "_law_drawn", "_law_draw", "outline", "_law_reducible", "_law_rows", "_law_next", "reachable", "outline_of", "head_shape"]
def rts1 : List PySem.Str := ["components", "entered_at", "jump", "spread", "_law_reach", "_law_edges", "_law_merge"]
abbrev rts : List PySem.Str := rts0 ++ rts1
abbrev hkX : PySem.W.Hook := Vl.hookZ (Vl.asZ rts 3) fas fns [] tfs exs xfs
def obs (s : PySem.W.SharedT) : Vl.AlY := Vl.obsZ (Vl.asZ rts 3) fas fns [] tfs exs xfs (HandSHeadRun.getT s)
theorem obs_eq (s : PySem.W.SharedT) : obs s = hkX.obs s.abs := Vl.obsZ_eq (HandSHeadRun.getT_eq s)
def nms0 : List PySem.Str := ["spread", "reachable", "components", "entered_at", "jump", "head_shape", "outline_of", "outline", "_law_draw", "_law_next"]
def nms1 : List PySem.Str := ["_law_rows", "_law_drawn", "_law_reach", "_law_edges", "_law_merge", "_law_reducible"]
abbrev nmsA : List PySem.Str := nms0 ++ nms1
theorem run (w : World) : HandSHeadRun.RunEq R (PySem.W.view R.prog [19]) hkX obs 20000 nmsA w := by
  intro os
  kernel_rfl
end Wk
open PySem PySem.W PySem.Calls PyProof.Rows
theorem PySem.Challenge.cw_rewoven_k28_whole_tangled_exactly_holds : PySem.Challenge.rw_rewoven_k28_whole_tangled_exactly.Holds := by
  w_on; o_law
  refine HandSHeadRun.head_any (r := Wk.R) (q := view Wk.R.prog [19]) (H := Wk.hkX) (ob := Wk.obs) (M := 20000)
    (loose := Wk.nmsA) (d := HandSHeadRun.topDef Wk.R.prog 19) (kwd := []) Wk.obs_eq (by kernel_rfl) (fun s => by kernel_rfl)
    Wk.run (by kernel_rfl) (by kernel_rfl) (by kernel_rfl) (by rfl) (by first | assumption | decide +kernel) (by decide +kernel)
    ⟨rfl, rfl, rfl, rfl, rfl, by decide +kernel⟩ ?hw ?hc
  case hw => w_witness2
  case hc =>
    refine LamX.walk_ofTsE (l := PySem.Challenge.rw_rewoven_k28_whole_tangled_exactly) (n := 63) (k := 135) (x := "script") (CX := fun w => L2.CX PySem.Challenge.pw_rewoven_k28_whole_tangled_exactly w)
      rfl (by decide) (by kernel_rfl) ⟨rfl, by decide, by decide⟩ ?F (fun w H s e s' h => Vl.cx_no h)
    intro w mg fa h Y G hmg0
    obtain ⟨K, KX, c, y⟩ := Y
    have hmg : mg ("law" : PySem.Str) = some (.ref fa) := by
      have e : (HandSHeadRun.topDef Wk.R.prog 19).name = ("law" : PySem.Str) := by kernel_rfl
      rw [← e]
      exact hmg0
    exact ⟨K, KX, Vl.law_end (i := 16) (j := 0) (d := Wk.d_law) c KX G hmg rfl rfl rfl rfl (fun _ _ _ _ _ _ us hl => match us, hl with | [_], _ => rfl) (fun base z => Wk.ok_law z y) Wk.plain⟩

