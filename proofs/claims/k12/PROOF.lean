import PyProof.Rows.All
import Wide.All
import OpenK.AllK
import Wide.FinOn
import KE.KStateDown
import Lean
import HandS.ForMost
import HandS.ForExc
import HandS.Defaults
import HandS.CallSlots
import HandS.TupAny
import HandS.TupLe
import HandS.Deep
import HandS.WideBits
import HandS.Wide
import HandS.IsInst
import HandS.Flow
import HandS.TupMul
import HandS.Walk
import HandS.Zip
import HandS.List
import HandS.Property
import HandS.ClsMeth
import HandS.Star
import HandS.Style
import HandS.Text
import OpenK.KDescr
import OpenK.KCls
import KE.KStar
import PyProof.StrOps2
import HandS.Iter
import PyProof.Draws
import PyProof.EnumMake
import PyProof.TupleIter
import HandS.SortInts
import HandS.RaiseMore
import HandS.Sort
import HandS.SortOrd
import KE.KSortTupG
import HandS.Head0
import HandS.Head1
import HandS.Head2
import HandS.HeadEnd
import HandS.HeadHook1
import HandS.HeadHook2
import HandS.HeadNt
import HandS.Ends
import HandS.WordsExc
import HandS.Dict
import OpenK.KOps
import PyProof.ReprBulk
import PyProof.Rows.RegStrFacts
import PySem.Challenge.RW_seatchains_k12_overfull_and_count
set_option Elab.async false
set_option linter.all false
set_option maxRecDepth 100000
set_option maxHeartbeats 4000000
/-! DL0: plain data, how values stand for it, steps of the heap, readings over plain data. -/
namespace DL
open PySem PySem.Spec PyProof.Rows L2

inductive Dat where
  | non | bl (b : Bool) | int (i : Int) | str (x : Str)
  | tup (xs : List Dat) | lst (xs : List Dat) | scr (xs : List Dat)
  | dic (ks : List (Key × Dat)) | ins (C : Addr) (fs : List (Str × Dat)) | raw (v : V)

/-- a list, a tuple of the written part -/
def WrL (K : PySem.W.Frag) (a : Addr) (xs : List V) : Prop :=
  ∃ (o : Obj) (its : Array Value) (n : Nat), K.lookup a = some o ∧ o.cls = .type "list" ∧ o.dict = none ∧ o.data = .seq its n ∧ its.size ≤ sizeLine ∧ Vals xs its.toList
def WrT (K : PySem.W.Frag) (a : Addr) (xs : List V) : Prop :=
  ∃ (o : Obj) (its : Array Value) (n : Nat), K.lookup a = some o ∧ o.cls = .type "tuple" ∧ o.data = .seq its n ∧ its.size ≤ sizeLine ∧ Vals xs its.toList

mutual
inductive Rep (K : PySem.W.Frag) (A : Addr → Prop) (H : Hp) : V → Dat → Prop
  | non : Rep K A H .non .non
  | bl (b : Bool) : Rep K A H (.bl b) (.bl b)
  | int (i : Int) : Rep K A H (.int i) (.int i)
  | str (x : Str) : Rep K A H (.str x) (.str x)
  | tup {a : Addr} {vs : List V} {ds : List Dat} : Rd H a (.tup vs) → ¬ A a → Reps K A H vs ds → Rep K A H (.ref a) (.tup ds)
  | tupK {a : Addr} {vs : List V} {ds : List Dat} : WrT K a vs → Reps K A H vs ds → Rep K A H (.ref a) (.tup ds)
  | lst {a : Addr} {vs : List V} {ds : List Dat} : H a = some (.lst vs) → ¬ A a → Reps K A H vs ds → Rep K A H (.ref a) (.lst ds)
  | scr {a : Addr} {vs : List V} {ds : List Dat} : Rd H a (.lst vs) → ¬ A a → Reps K A H vs ds → Rep K A H (.ref a) (.scr ds)
  | scrK {a : Addr} {vs : List V} {ds : List Dat} : WrL K a vs → Reps K A H vs ds → Rep K A H (.ref a) (.scr ds)
  | dic {a : Addr} {vs : List (Key × V)} {ds : List (Key × Dat)} : Rd H a (.dK vs) → ¬ A a → RepK K A H vs ds → Rep K A H (.ref a) (.dic ds)
  | ins {a C dx : Addr} {vs : List (Str × V)} {ds : List (Str × Dat)} : H a = some (.ins C dx vs) → ¬ A a → RepF K A H vs ds → Rep K A H (.ref a) (.ins C ds)
  | raw (v : V) : Rep K A H v (.raw v)
inductive Reps (K : PySem.W.Frag) (A : Addr → Prop) (H : Hp) : List V → List Dat → Prop
  | nil : Reps K A H [] []
  | cons {v : V} {vs : List V} {d : Dat} {ds : List Dat} : Rep K A H v d → Reps K A H vs ds → Reps K A H (v :: vs) (d :: ds)
inductive RepK (K : PySem.W.Frag) (A : Addr → Prop) (H : Hp) : List (Key × V) → List (Key × Dat) → Prop
  | nil : RepK K A H [] []
  | cons {k : Key} {v : V} {vs : List (Key × V)} {d : Dat} {ds : List (Key × Dat)} : Rep K A H v d → RepK K A H vs ds → RepK K A H ((k, v) :: vs) ((k, d) :: ds)
inductive RepF (K : PySem.W.Frag) (A : Addr → Prop) (H : Hp) : List (Str × V) → List (Str × Dat) → Prop
  | nil : RepF K A H [] []
  | cons {k : Str} {v : V} {vs : List (Str × V)} {d : Dat} {ds : List (Str × Dat)} : Rep K A H v d → RepF K A H vs ds → RepF K A H ((k, v) :: vs) ((k, d) :: ds)
end

/-! ### how the heap may go on -/
/-- all that stands outside of L stands; what is avoided now was avoided or is new -/
structure Go (L A A' : Addr → Prop) (H H' : Hp) : Prop where
  keep : ∀ b o, H b = some o → ¬ L b → H' b = some o
  mono : ∀ b, H' b = none → H b = none
  up : ∀ b, A b → A' b
  new : ∀ b, A' b → A b ∨ H b = none

section
variable {K : PySem.W.Frag} {L A A' : Addr → Prop} {H H' : Hp}
theorem Go.rd (g : Go L A A' H H') (hL : ∀ b, L b → A b) {a : Addr} {u : HO} (h : Rd H a u) (ha : ¬ A a) : Rd H' a u ∧ ¬ A' a := by
  have hn : ∃ o, H a = some o := by
    rcases h with h | ⟨o, h⟩
    · exact ⟨_, h⟩
    · exact ⟨_, h⟩
  obtain ⟨o, ho⟩ := hn
  refine ⟨?_, fun z => ?_⟩
  · rcases h with h | ⟨o, h⟩
    · exact .inl (g.keep _ _ h fun z => ha (hL a z))
    · exact .inr ⟨o, g.keep _ _ h fun z => ha (hL a z)⟩
  · rcases g.new a z with z | z
    · exact ha z
    · rw [ho] at z; cases z

mutual
theorem Rep.go (g : Go L A A' H H') (hL : ∀ b, L b → A b) : ∀ {v : V} {d : Dat}, Rep K A H v d → Rep K A' H' v d
  | _, _, .non => .non
  | _, _, .bl b => .bl b
  | _, _, .int i => .int i
  | _, _, .str x => .str x
  | _, _, .tup h n r => .tup (g.rd hL h n).1 (g.rd hL h n).2 (Reps.go g hL r)
  | _, _, .tupK h r => .tupK h (Reps.go g hL r)
  | _, _, .lst h n r => .lst (g.keep _ _ h fun z => n (hL _ z)) (fun z => by
      rcases g.new _ z with z | z
      · exact n z
      · rw [h] at z; cases z) (Reps.go g hL r)
  | _, _, .scr h n r => .scr (g.rd hL h n).1 (g.rd hL h n).2 (Reps.go g hL r)
  | _, _, .scrK h r => .scrK h (Reps.go g hL r)
  | _, _, .dic h n r => .dic (g.rd hL h n).1 (g.rd hL h n).2 (RepK.go g hL r)
  | _, _, .ins h n r => .ins (g.keep _ _ h fun z => n (hL _ z)) (fun z => by
      rcases g.new _ z with z | z
      · exact n z
      · rw [h] at z; cases z) (RepF.go g hL r)
  | _, _, .raw v => .raw v
theorem Reps.go (g : Go L A A' H H') (hL : ∀ b, L b → A b) : ∀ {v : List V} {d : List Dat}, Reps K A H v d → Reps K A' H' v d
  | _, _, .nil => .nil
  | _, _, .cons h r => .cons (Rep.go g hL h) (Reps.go g hL r)
theorem RepK.go (g : Go L A A' H H') (hL : ∀ b, L b → A b) : ∀ {v : List (Key × V)} {d : List (Key × Dat)}, RepK K A H v d → RepK K A' H' v d
  | _, _, .nil => .nil
  | _, _, .cons h r => .cons (Rep.go g hL h) (RepK.go g hL r)
theorem RepF.go (g : Go L A A' H H') (hL : ∀ b, L b → A b) : ∀ {v : List (Str × V)} {d : List (Str × Dat)}, RepF K A H v d → RepF K A' H' v d
  | _, _, .nil => .nil
  | _, _, .cons h r => .cons (Rep.go g hL h) (RepF.go g hL r)
end
mutual
theorem Rep.less (h : ∀ b, A' b → A b) : ∀ {v : V} {d : Dat}, Rep K A H v d → Rep K A' H v d
  | _, _, .non => .non
  | _, _, .bl b => .bl b
  | _, _, .int i => .int i
  | _, _, .str x => .str x
  | _, _, .tup x n r => .tup x (fun z => n (h _ z)) (Reps.less h r)
  | _, _, .tupK x r => .tupK x (Reps.less h r)
  | _, _, .lst x n r => .lst x (fun z => n (h _ z)) (Reps.less h r)
  | _, _, .scr x n r => .scr x (fun z => n (h _ z)) (Reps.less h r)
  | _, _, .scrK x r => .scrK x (Reps.less h r)
  | _, _, .dic x n r => .dic x (fun z => n (h _ z)) (RepK.less h r)
  | _, _, .ins x n r => .ins x (fun z => n (h _ z)) (RepF.less h r)
  | _, _, .raw v => .raw v
theorem Reps.less (h : ∀ b, A' b → A b) : ∀ {v : List V} {d : List Dat}, Reps K A H v d → Reps K A' H v d
  | _, _, .nil => .nil
  | _, _, .cons x r => .cons (Rep.less h x) (Reps.less h r)
theorem RepK.less (h : ∀ b, A' b → A b) : ∀ {v : List (Key × V)} {d : List (Key × Dat)}, RepK K A H v d → RepK K A' H v d
  | _, _, .nil => .nil
  | _, _, .cons x r => .cons (Rep.less h x) (RepK.less h r)
theorem RepF.less (h : ∀ b, A' b → A b) : ∀ {v : List (Str × V)} {d : List (Str × Dat)}, RepF K A H v d → RepF K A' H v d
  | _, _, .nil => .nil
  | _, _, .cons x r => .cons (Rep.less h x) (RepF.less h r)
end
theorem Reps.length : ∀ {vs : List V} {ds : List Dat}, Reps K A H vs ds → vs.length = ds.length
  | _, _, .nil => rfl
  | _, _, .cons _ r => congrArg Nat.succ (Reps.length r)
theorem Reps.append : ∀ {vs ws : List V} {ds es : List Dat}, Reps K A H vs ds → Reps K A H ws es → Reps K A H (vs ++ ws) (ds ++ es)
  | _, _, _, _, .nil, s => s
  | _, _, _, _, .cons h r, s => .cons h (Reps.append r s)
theorem Reps.get : ∀ {vs : List V} {ds : List Dat} {i : Nat} {d : Dat}, Reps K A H vs ds → ds[i]? = some d → ∃ v, vs[i]? = some v ∧ Rep K A H v d
  | _, _, _, _, .nil, e => by simp at e
  | _, _, 0, _, .cons h r, e => by simp at e; subst e; exact ⟨_, rfl, h⟩
  | _, _, i + 1, _, .cons h r, e => by
    obtain ⟨v, h1, h2⟩ := Reps.get (i := i) r (by simpa using e)
    exact ⟨v, by simpa using h1, h2⟩
theorem Reps.getV : ∀ {vs : List V} {ds : List Dat} {i : Nat} {v : V}, Reps K A H vs ds → vs[i]? = some v → ∃ d, ds[i]? = some d ∧ Rep K A H v d
  | _, _, _, _, .nil, e => by simp at e
  | _, _, 0, _, .cons h r, e => by simp at e; subst e; exact ⟨_, rfl, h⟩
  | _, _, i + 1, _, .cons h r, e => by
    obtain ⟨v, h1, h2⟩ := Reps.getV (i := i) r (by simpa using e)
    exact ⟨v, by simpa using h1, h2⟩
theorem Reps.set {v : V} {d : Dat} (h : Rep K A H v d) : ∀ {vs : List V} {ds : List Dat} (i : Nat), Reps K A H vs ds → Reps K A H (vs.set i v) (ds.set i d)
  | _, _, _, .nil => .nil
  | _, _, 0, .cons _ r => .cons h r
  | _, _, i + 1, .cons q r => .cons q (Reps.set h i r)
theorem Reps.take : ∀ {vs : List V} {ds : List Dat} (n : Nat), Reps K A H vs ds → Reps K A H (vs.take n) (ds.take n)
  | _, _, 0, _ => .nil
  | _, _, _ + 1, .nil => .nil
  | _, _, n + 1, .cons r t => .cons r (Reps.take n t)
theorem Reps.drop : ∀ {vs : List V} {ds : List Dat} (n : Nat), Reps K A H vs ds → Reps K A H (vs.drop n) (ds.drop n)
  | _, _, 0, r => r
  | _, _, _ + 1, .nil => .nil
  | _, _, n + 1, .cons _ t => Reps.drop n t
theorem Reps.reverse {vs : List V} {ds : List Dat} (r : Reps K A H vs ds) : Reps K A H vs.reverse ds.reverse := by
  induction ds generalizing vs with
  | nil => cases r; exact .nil
  | cons d ds ih =>
    cases r with
    | cons h r =>
      rw [List.reverse_cons, List.reverse_cons]
      exact (ih r).append (.cons h .nil)
end

/-! ### the objects that may change -/
inductive Lo where
  | lst (xs : List Dat) | dic (ks : List (Key × Dat)) | ins (C : Addr) (fs : List (Str × Dat)) | gone
/-- frames of objects that may change, the running def's first -/
abbrev Mem := List (List (Addr × Lo))
/-- a value as the reading knows it: plain data, or the i-th object of the n-th frame -/
inductive Cv where
  | p (d : Dat) | l (n i : Nat)
abbrev G := List (Option Cv)
def Live (m : Mem) (b : Addr) : Prop := ∃ lo, (b, lo) ∈ m.flatten ∧ lo ≠ .gone
def LoOk (K : PySem.W.Frag) (A : Addr → Prop) (H : Hp) (a : Addr) : Lo → Prop
  | .lst ds => A a ∧ ∃ vs, H a = some (.lst vs) ∧ Reps K A H vs ds
  | .dic ds => A a ∧ ∃ vs, H a = some (.dK vs) ∧ RepK K A H vs ds
  | .ins C ds => A a ∧ ∃ dx vs, H a = some (.ins C dx vs) ∧ RepF K A H vs ds
  | .gone => ∃ o, H a = some o
structure MemOk (K : PySem.W.Frag) (A : Addr → Prop) (H : Hp) (m : Mem) : Prop where
  ok : ∀ a lo, (a, lo) ∈ m.flatten → LoOk K A H a lo
  nd : (m.flatten.map (·.1)).Nodup
  al : ∀ b, A b → ∃ o, H b = some o
def fget : List (Addr × Lo) → Nat → Option (Addr × Lo)
  | [], _ => none
  | x :: _, 0 => some x
  | _ :: m, n + 1 => fget m n
def mget : Mem → Nat → Nat → Option (Addr × Lo)
  | [], _, _ => none
  | f :: _, 0, i => fget f i
  | _ :: m, n + 1, i => mget m n i
def fset : List (Addr × Lo) → Nat → Lo → List (Addr × Lo)
  | [], _, _ => []
  | x :: m, 0, lo => (x.1, lo) :: m
  | x :: m, n + 1, lo => x :: fset m n lo
def mset : Mem → Nat → Nat → Lo → Mem
  | [], _, _, _ => []
  | f :: m, 0, i, lo => fset f i lo :: m
  | f :: m, n + 1, i, lo => f :: mset m n i lo
def ftop : Mem → List (Addr × Lo)
  | [] => []
  | f :: _ => f
def mpush : Mem → (Addr × Lo) → Mem
  | [], _ => []
  | f :: m, x => (f ++ [x]) :: m
theorem fget_eq : ∀ (m : List (Addr × Lo)) (n : Nat), fget m n = m[n]?
  | [], n => by simp [fget]
  | x :: m, 0 => rfl
  | x :: m, n + 1 => by simp [fget, fget_eq m n]
theorem fget_mem {f : List (Addr × Lo)} {i : Nat} {x : Addr × Lo} (h : fget f i = some x) : x ∈ f := by
  rw [fget_eq] at h; exact List.mem_of_getElem? h
theorem mget_mem : ∀ {m : Mem} {n i : Nat} {x : Addr × Lo}, mget m n i = some x → x ∈ m.flatten
  | f :: m, 0, i, x, h => by
    rw [List.flatten_cons]
    exact List.mem_append_left _ (fget_mem h)
  | f :: m, n + 1, i, x, h => by
    rw [List.flatten_cons]
    exact List.mem_append_right _ (mget_mem (m := m) (n := n) h)
def CvOk (K : PySem.W.Frag) (A : Addr → Prop) (H : Hp) (m : Mem) (v : V) : Cv → Prop
  | .p d => Rep K A H v d
  | .l n i => ∃ a lo, mget m n i = some (a, lo) ∧ v = .ref a
structure CellsOk (K : PySem.W.Frag) (A : Addr → Prop) (H : Hp) (σ : L2.St) (g : G) (m : Mem) : Prop where
  len : g.length = σ.length
  at_ : ∀ (i : Nat) (c : Cv), g[i]? = some (some c) → ∃ v, σ[i]? = some (some v) ∧ CvOk K A H m v c
abbrev RX : Addr × Lo → Addr × Lo → Prop := fun x y => x.1 = y.1 ∧ (x.2 = .gone → y.2 = .gone)
/-- a frame has gone on: its objects in their places, new ones behind them -/
def FrGo (N : Addr → Prop) (f f' : List (Addr × Lo)) : Prop := ∃ f1 f2, f' = f1 ++ f2 ∧ Paired RX f f1 ∧ ∀ x ∈ f2, N x.1
structure Step (K : PySem.W.Frag) (A : Addr → Prop) (m : Mem) (H : Hp) (A' : Addr → Prop) (m' : Mem) (H' : Hp) : Prop where
  go : Go (Live m) A A' H H'
  pre : Paired (FrGo fun b => H b = none) m m'
  mem : MemOk K A' H' m'

section
variable {K : PySem.W.Frag} {A A' A'' : Addr → Prop} {H H' H'' : Hp} {m m' m'' : Mem}
theorem MemOk.live (h : MemOk K A H m) : ∀ b, Live m b → A b := fun b ⟨lo, hm, hn⟩ => by
  have q := h.ok b lo hm
  cases lo with
  | lst _ => exact q.1
  | dic _ => exact q.1
  | ins _ _ => exact q.1
  | gone => exact absurd rfl hn
theorem MemOk.some (h : MemOk K A H m) {a : Addr} {lo : Lo} (hm : (a, lo) ∈ m.flatten) : ∃ o, H a = some o := by
  have q := h.ok a lo hm
  cases lo with
  | lst ds => obtain ⟨_, vs, q2, _⟩ := q; exact ⟨_, q2⟩
  | dic ds => obtain ⟨_, vs, q2, _⟩ := q; exact ⟨_, q2⟩
  | ins C ds => obtain ⟨_, dx, vs, q2, _⟩ := q; exact ⟨_, q2⟩
  | gone => exact q
theorem Rep.step (h : MemOk K A H m) (s : Step K A m H A' m' H') {v : V} {d : Dat} (r : Rep K A H v d) : Rep K A' H' v d := r.go s.go h.live
theorem Reps.step (h : MemOk K A H m) (s : Step K A m H A' m' H') {v : List V} {d : List Dat} (r : Reps K A H v d) : Reps K A' H' v d := r.go s.go h.live
theorem paired_get {α : Type} {R : α → α → Prop} : ∀ {xs ys : List α} {i : Nat} {x : α}, Paired R xs ys → xs[i]? = some x → ∃ y, ys[i]? = some y ∧ R x y
  | _, _, _, _, .nil, e => by simp at e
  | _, _, 0, _, .cons h r, e => by simp at e; subst e; exact ⟨_, rfl, h⟩
  | _, _, i + 1, _, .cons h r, e => by
    obtain ⟨v, h1, h2⟩ := paired_get (i := i) r (by simpa using e)
    exact ⟨v, by simpa using h1, h2⟩
theorem paired_getR {α : Type} {R : α → α → Prop} : ∀ {xs ys : List α} {i : Nat} {y : α}, Paired R xs ys → ys[i]? = some y → ∃ x, xs[i]? = some x ∧ R x y
  | _, _, _, _, .nil, e => by simp at e
  | _, _, 0, _, .cons h r, e => by simp at e; subst e; exact ⟨_, rfl, h⟩
  | _, _, i + 1, _, .cons h r, e => by
    obtain ⟨v, h1, h2⟩ := paired_getR (i := i) r (by simpa using e)
    exact ⟨v, by simpa using h1, h2⟩
theorem paired_refl {α : Type} {R : α → α → Prop} (h : ∀ x, R x x) : ∀ xs : List α, Paired R xs xs
  | [] => .nil
  | x :: xs => .cons (h x) (paired_refl h xs)
theorem paired_trans {α : Type} {R S T : α → α → Prop} (h : ∀ x y z, R x y → S y z → T x z) : ∀ {xs ys zs : List α}, Paired R xs ys → Paired S ys zs → Paired T xs zs
  | _, _, _, .nil, .nil => .nil
  | _, _, _, .cons a b, .cons c d => .cons (h _ _ _ a c) (paired_trans h b d)
theorem paired_imp {α : Type} {R S : α → α → Prop} (h : ∀ x y, R x y → S x y) : ∀ {xs ys : List α}, Paired R xs ys → Paired S xs ys
  | _, _, .nil => .nil
  | _, _, .cons a b => .cons (h _ _ a) (paired_imp h b)
theorem paired_split {α : Type} {R : α → α → Prop} : ∀ {xs ys zs : List α}, Paired R (xs ++ ys) zs → ∃ a b, zs = a ++ b ∧ Paired R xs a ∧ Paired R ys b
  | [], ys, zs, h => ⟨[], zs, rfl, .nil, h⟩
  | x :: xs, ys, _, .cons h r => by
    obtain ⟨a, b, e, p, q⟩ := paired_split r
    exact ⟨_ :: a, b, by rw [e]; rfl, .cons h p, q⟩
theorem RX.refl (x : Addr × Lo) : RX x x := ⟨rfl, id⟩
theorem RX.trans {x y z : Addr × Lo} (a : RX x y) (b : RX y z) : RX x z := ⟨a.1.trans b.1, fun e => b.2 (a.2 e)⟩
theorem FrGo.refl (N : Addr → Prop) (f : List (Addr × Lo)) : FrGo N f f := ⟨f, [], by simp, paired_refl RX.refl f, fun _ z => nomatch z⟩
theorem FrGo.trans {N N' N'' : Addr → Prop} {f f' f'' : List (Addr × Lo)} (a : FrGo N f f') (b : FrGo N' f' f'') (h1 : ∀ x, N x → N'' x) (h2 : ∀ x, N' x → N'' x) : FrGo N'' f f'' := by
  obtain ⟨m1, m2, e1, p1, q1⟩ := a
  obtain ⟨n1, n2, e2, p2, q2⟩ := b
  rw [e1] at p2
  obtain ⟨a, b, e3, p3, p4⟩ := paired_split p2
  refine ⟨a, b ++ n2, by rw [e2, e3, List.append_assoc], paired_trans (S := RX) (T := RX) (fun _ _ _ a b => a.trans b) p1 p3, fun x hx => ?_⟩
  rcases List.mem_append.mp hx with hx | hx
  · obtain ⟨i, hi⟩ := List.getElem?_of_mem hx
    obtain ⟨y, h3, h4, _⟩ := paired_getR p4 hi
    rw [← h4]
    exact h1 _ (q1 y (List.mem_of_getElem? h3))
  · exact h2 _ (q2 x hx)
theorem FrGo.imp {N N' : Addr → Prop} {f f' : List (Addr × Lo)} (a : FrGo N f f') (h : ∀ x, N x → N' x) : FrGo N' f f' := by
  obtain ⟨m1, m2, e1, p1, q1⟩ := a
  exact ⟨m1, m2, e1, p1, fun x hx => h _ (q1 x hx)⟩
theorem FrGo.get {N : Addr → Prop} {f f' : List (Addr × Lo)} (s : FrGo N f f') {n : Nat} {a : Addr} {lo : Lo} (h : fget f n = some (a, lo)) : ∃ lo', fget f' n = some (a, lo') ∧ (lo = .gone → lo' = .gone) := by
  rw [fget_eq] at h
  obtain ⟨m1, m2, rfl, p, _⟩ := s
  obtain ⟨⟨a', lo'⟩, h1, e, h2⟩ := paired_get p h
  have e' : a = a' := e
  subst e'
  refine ⟨lo', ?_, h2⟩
  rw [fget_eq, List.getElem?_append_left (List.getElem?_eq_some_iff.mp h1).1]
  exact h1
theorem pre_get {N : Addr → Prop} : ∀ {m m' : Mem} {n i : Nat} {a : Addr} {lo : Lo}, Paired (FrGo N) m m' → mget m n i = some (a, lo) → ∃ lo', mget m' n i = some (a, lo') ∧ (lo = .gone → lo' = .gone)
  | _, _, 0, i, a, lo, .cons s r, h => s.get h
  | _, _, n + 1, i, a, lo, .cons s r, h => pre_get (n := n) r h
theorem pre_back {N : Addr → Prop} : ∀ {m m' : Mem} {b : Addr} {lo : Lo}, Paired (FrGo N) m m' → (b, lo) ∈ m'.flatten → (∃ lo', (b, lo') ∈ m.flatten ∧ (lo' = .gone → lo = .gone)) ∨ N b
  | _, _, b, lo, .nil, h => by simp at h
  | _, _, b, lo, .cons (b := f') (a := f) s r, h => by
    rw [List.flatten_cons] at h
    rcases List.mem_append.mp h with h | h
    · obtain ⟨m1, m2, e, p, q⟩ := s
      rw [e] at h
      rcases List.mem_append.mp h with h | h
      · obtain ⟨i, hi⟩ := List.getElem?_of_mem h
        obtain ⟨⟨a', lo'⟩, h1, e1, h2⟩ := paired_getR p hi
        have e' : a' = b := e1
        subst e'
        exact .inl ⟨lo', by rw [List.flatten_cons]; exact List.mem_append_left _ (List.mem_of_getElem? h1), h2⟩
      · exact .inr (q _ h)
    · rcases pre_back r h with ⟨lo', h1, h2⟩ | h1
      · exact .inl ⟨lo', by rw [List.flatten_cons]; exact List.mem_append_right _ h1, h2⟩
      · exact .inr h1
theorem Step.get (s : Step K A m H A' m' H') {n i : Nat} {a : Addr} {lo : Lo} (h : mget m n i = some (a, lo)) : ∃ lo', mget m' n i = some (a, lo') ∧ (lo = .gone → lo' = .gone) := pre_get s.pre h
theorem Step.liveBack (s : Step K A m H A' m' H') {b : Addr} (h : Live m' b) : Live m b ∨ H b = none := by
  obtain ⟨lo, hm, hn⟩ := h
  rcases pre_back s.pre hm with ⟨lo', h1, h2⟩ | h1
  · exact .inl ⟨lo', h1, fun z => hn (h2 z)⟩
  · exact .inr h1
theorem CvOk.step (h : MemOk K A H m) (s : Step K A m H A' m' H') {v : V} {c : Cv} (r : CvOk K A H m v c) : CvOk K A' H' m' v c := by
  cases c with
  | p d => exact Rep.step h s r
  | l n i =>
    obtain ⟨a, lo, h1, h2⟩ := r
    obtain ⟨lo', h3, _⟩ := s.get h1
    exact ⟨a, lo', h3, h2⟩
theorem CellsOk.step (h : MemOk K A H m) (s : Step K A m H A' m' H') {σ : L2.St} {g : G} (r : CellsOk K A H σ g m) : CellsOk K A' H' σ g m' :=
  ⟨r.len, fun i c e => let ⟨v, h1, h2⟩ := r.at_ i c e; ⟨v, h1, h2.step h s⟩⟩
theorem Step.refl (h : MemOk K A H m) : Step K A m H A m H :=
  ⟨⟨fun _ _ e _ => e, fun _ e => e, fun _ e => e, fun _ e => .inl e⟩, paired_refl (FrGo.refl _) m, h⟩
theorem Step.trans (s : Step K A m H A' m' H') (t : Step K A' m' H' A'' m'' H'') : Step K A m H A'' m'' H'' where
  go := by
    refine ⟨fun b o e n => ?_, fun b e => s.go.mono b (t.go.mono b e), fun b e => t.go.up b (s.go.up b e), fun b e => ?_⟩
    · refine t.go.keep b o (s.go.keep b o e n) fun z => ?_
      rcases s.liveBack z with z | z
      · exact n z
      · rw [e] at z; cases z
    · rcases t.go.new b e with e | e
      · exact s.go.new b e
      · exact .inr (s.go.mono b e)
  pre := paired_trans (fun x y z a b => a.trans b (fun _ h => h) fun b h => s.go.mono b h) s.pre t.pre
  mem := t.mem
/-- nothing that is tracked has changed, objects may have come -/
theorem Step.same (h : MemOk K A H m) (k : ∀ b o, H b = some o → H' b = some o) : Step K A m H A m H' := by
  have gm : ∀ b, H' b = none → H b = none := fun b e => by
    cases q : H b with
    | none => rfl
    | some o =>
      rw [k b o q] at e
      cases e
  have gg : Go (fun _ => False) A A H H' := ⟨fun b o e _ => k b o e, gm, fun _ e => e, fun _ e => .inl e⟩
  refine ⟨⟨fun b o e _ => k b o e, gg.mono, gg.up, gg.new⟩, paired_refl (FrGo.refl _) m, ⟨fun a lo hm => ?_, h.nd, fun b hb => ?_⟩⟩
  · have q := h.ok a lo hm
    cases lo with
    | lst ds => obtain ⟨q1, vs, q2, q3⟩ := q; exact ⟨q1, vs, k _ _ q2, q3.go gg fun _ z => z.elim⟩
    | dic ds => obtain ⟨q1, vs, q2, q3⟩ := q; exact ⟨q1, vs, k _ _ q2, q3.go gg fun _ z => z.elim⟩
    | ins C ds => obtain ⟨q1, dx, vs, q2, q3⟩ := q; exact ⟨q1, dx, vs, k _ _ q2, q3.go gg fun _ z => z.elim⟩
    | gone => obtain ⟨o, q⟩ := q; exact ⟨o, k _ _ q⟩
  · obtain ⟨o, q⟩ := h.al b hb
    exact ⟨o, k _ _ q⟩
theorem Step.fresh (h : MemOk K A H m) {p : Addr} {o : HO} (hp : H p = none) : Step K A m H A m (upd H p o) := .same h fun b u e => by
  rw [upd_ne (ne_of_none e hp)]; exact e
/-- a new object that may change, behind those of the first frame -/
theorem Step.push {f : List (Addr × Lo)} {r : Mem} (h : MemOk K A H (f :: r)) {p : Addr} (hp : H p = none) {o : HO} {lo : Lo} (hl : ∀ H' : Hp, H' p = some o → Go (fun _ => False) A (fun b => A b ∨ b = p) H H' → LoOk K (fun b => A b ∨ b = p) H' p lo) (hn : ∀ b u, H b = some u → b ≠ p)
    {H' : Hp} (e1 : H' p = some o) (e2 : ∀ b u, H b = some u → H' b = some u) : Step K A (f :: r) H (fun b => A b ∨ b = p) ((f ++ [(p, lo)]) :: r) H' := by
  have gm : ∀ b, H' b = none → H b = none := fun b e => by
    cases q : H b with
    | none => rfl
    | some o =>
      rw [e2 b o q] at e
      cases e
  have gx : Go (fun _ => False) A (fun b => A b ∨ b = p) H H' := ⟨fun b o e _ => e2 b o e, gm, fun _ e => .inl e, fun b e => e.elim .inl fun e => .inr (by rw [e]; exact hp)⟩
  have nm : ∀ lo', (p, lo') ∉ (f :: r).flatten := fun lo' z => by
    obtain ⟨o, q⟩ := h.some z
    rw [hp] at q; cases q
  have fl : ((f ++ [(p, lo)]) :: r).flatten = f ++ ((p, lo) :: r.flatten) := by rw [List.flatten_cons, List.append_assoc]; rfl
  refine ⟨⟨fun b o e _ => e2 b o e, gx.mono, gx.up, gx.new⟩, .cons ⟨f, [(p, lo)], rfl, paired_refl RX.refl f, fun x hx => ?_⟩ (paired_refl (FrGo.refl _) r), ⟨fun a lo' hm => ?_, ?_, fun b hb => ?_⟩⟩
  · have e : x = (p, lo) := by simpa using hx
    rw [e]; exact hp
  · have old : (a, lo') ∈ (f :: r).flatten → LoOk K (fun b => A b ∨ b = p) H' a lo' := fun hm => by
      have q := h.ok a lo' hm
      cases lo' with
      | lst ds => obtain ⟨q1, vs, q2, q3⟩ := q; exact ⟨.inl q1, vs, e2 _ _ q2, q3.go gx fun _ z => z.elim⟩
      | dic ds => obtain ⟨q1, vs, q2, q3⟩ := q; exact ⟨.inl q1, vs, e2 _ _ q2, q3.go gx fun _ z => z.elim⟩
      | ins C ds => obtain ⟨q1, dx, vs, q2, q3⟩ := q; exact ⟨.inl q1, dx, vs, e2 _ _ q2, q3.go gx fun _ z => z.elim⟩
      | gone => obtain ⟨o, q⟩ := q; exact ⟨o, e2 _ _ q⟩
    rw [fl] at hm
    rcases List.mem_append.mp hm with hm | hm
    · exact old (by rw [List.flatten_cons]; exact List.mem_append_left _ hm)
    · rcases List.mem_cons.mp hm with e | hm
      · cases e
        exact hl H' e1 gx
      · exact old (by rw [List.flatten_cons]; exact List.mem_append_right _ hm)
  · rw [fl, List.map_append, List.map_cons]
    have nd := h.nd
    rw [List.flatten_cons, List.map_append] at nd
    obtain ⟨n1, n2, n3⟩ := List.nodup_append.mp nd
    refine List.nodup_append.mpr ⟨n1, List.nodup_cons.mpr ⟨fun z => ?_, n2⟩, fun x hx y hy => ?_⟩
    · obtain ⟨⟨a, lo'⟩, h1, h2⟩ := List.mem_map.mp z
      have h2' : a = p := h2
      subst h2'
      exact nm lo' (by rw [List.flatten_cons]; exact List.mem_append_right _ h1)
    · rcases List.mem_cons.mp hy with e | hy
      · rw [e]
        intro z
        obtain ⟨⟨a, lo'⟩, h1, h2⟩ := List.mem_map.mp hx
        have h2' : a = p := Eq.trans (show a = x from h2) z
        rw [h2'] at h1
        exact nm lo' (by rw [List.flatten_cons]; exact List.mem_append_left _ h1)
      · exact n3 x hx y hy
  · rcases hb with hb | hb
    · obtain ⟨o, q⟩ := h.al b hb
      exact ⟨o, e2 _ _ q⟩
    · exact ⟨o, by rw [hb]; exact e1⟩
theorem Step.pushL {f : List (Addr × Lo)} {r : Mem} (h : MemOk K A H (f :: r)) {p : Addr} (hp : H p = none) {vs : List V} {ds : List Dat} (rr : Reps K A H vs ds) :
    Step K A (f :: r) H (fun b => A b ∨ b = p) ((f ++ [(p, .lst ds)]) :: r) (upd H p (.lst vs)) :=
  Step.push (lo := .lst ds) h hp (fun H' e g => ⟨.inr rfl, vs, e, rr.go g fun _ z => z.elim⟩) (fun b u e => ne_of_none e hp) upd_same fun b u e => by rw [upd_ne (ne_of_none e hp)]; exact e
end

/-! ### values as data -/
def dat : Lo → Dat
  | .lst xs => .lst xs
  | .dic ks => .dic ks
  | .ins C fs => .ins C fs
  | .gone => .non
def view (m : Mem) : Cv → Dat
  | .p d => d
  | .l n i => match mget m n i with
    | some (a, .gone) => .raw (.ref a)
    | some (_, lo) => dat lo
    | none => .non
def slot : G → Nat → Option Cv
  | [], _ => none
  | c :: _, 0 => c
  | _ :: g, n + 1 => slot g n
theorem slot_eq : ∀ {g : G} {i : Nat} {c : Cv}, slot g i = some c → g[i]? = some (some c)
  | c :: _, 0, _, h => by
    have h : c = some _ := h
    rw [h]; rfl
  | _ :: g, n + 1, c, h => by simpa using slot_eq (g := g) (i := n) h
def put : G → Nat → Option Cv → G
  | [], _, _ => []
  | _ :: g, 0, c => c :: g
  | x :: g, n + 1, c => x :: put g n c
theorem put_eq : ∀ (g : G) (i : Nat) (c : Option Cv), put g i c = g.set i c
  | [], _, _ => rfl
  | _ :: _, 0, _ => rfl
  | x :: g, n + 1, c => by simp [put, put_eq g n c]

/-- a value seen as data; its own object may be one that changes -/
inductive RepW (K : PySem.W.Frag) (A : Addr → Prop) (H : Hp) : V → Dat → Prop
  | r {v : V} {d : Dat} : Rep K A H v d → RepW K A H v d
  | lst {a : Addr} {vs : List V} {ds : List Dat} : H a = some (.lst vs) → Reps K A H vs ds → RepW K A H (.ref a) (.lst ds)
  | dic {a : Addr} {vs : List (Key × V)} {ds : List (Key × Dat)} : H a = some (.dK vs) → RepK K A H vs ds → RepW K A H (.ref a) (.dic ds)
  | ins {a C dx : Addr} {vs : List (Str × V)} {ds : List (Str × Dat)} : H a = some (.ins C dx vs) → RepF K A H vs ds → RepW K A H (.ref a) (.ins C ds)
theorem CvOk.w {K : PySem.W.Frag} {A : Addr → Prop} {H : Hp} {m : Mem} (h : MemOk K A H m) {v : V} {c : Cv} (r : CvOk K A H m v c) : RepW K A H v (view m c) := by
  cases c with
  | p d => exact .r r
  | l n i =>
    obtain ⟨a, lo, h1, rfl⟩ := r
    have q := h.ok a lo (mget_mem h1)
    show RepW K A H (.ref a) (match mget m n i with
      | some (a, .gone) => .raw (.ref a)
      | some (_, lo) => dat lo
      | none => .non)
    rw [h1]
    cases lo with
    | lst ds => obtain ⟨_, vs, q1, q2⟩ := q; exact .lst q1 q2
    | dic ds => obtain ⟨_, vs, q1, q2⟩ := q; exact .dic q1 q2
    | ins C ds => obtain ⟨_, dx, vs, q1, q2⟩ := q; exact .ins q1 q2
    | gone => exact .r (.raw _)
section
variable {K : PySem.W.Frag} {A : Addr → Prop} {H : Hp} {v : V}
theorem RepW.int {i : Int} (h : RepW K A H v (.int i)) : v = .int i := by
  cases h with
  | r h => cases h; rfl
theorem RepW.bl {i : Bool} (h : RepW K A H v (.bl i)) : v = .bl i := by
  cases h with
  | r h => cases h; rfl
theorem RepW.str {i : Str} (h : RepW K A H v (.str i)) : v = .str i := by
  cases h with
  | r h => cases h; rfl
theorem RepW.non (h : RepW K A H v .non) : v = .non := by
  cases h with
  | r h => cases h; rfl
theorem RepW.tup {ds : List Dat} (h : RepW K A H v (.tup ds)) : ∃ a vs, v = .ref a ∧ SqT K H a vs ∧ Reps K A H vs ds := by
  cases h with
  | r h =>
    cases h with
    | tup h n r => exact ⟨_, _, rfl, .inl h, r⟩
    | tupK h r => exact ⟨_, _, rfl, .inr h, r⟩
theorem RepW.seqH {ds : List Dat} (h : RepW K A H v (.lst ds)) : ∃ a vs, v = .ref a ∧ H a = some (.lst vs) ∧ Reps K A H vs ds := by
  cases h with
  | r h =>
    cases h with
    | lst h n r => exact ⟨_, _, rfl, h, r⟩
  | lst h r => exact ⟨_, _, rfl, h, r⟩
theorem RepW.seq {ds : List Dat} (h : RepW K A H v (.lst ds)) : ∃ a vs, v = .ref a ∧ SqL K H a vs ∧ Reps K A H vs ds :=
  let ⟨a, vs, e, h, r2⟩ := h.seqH
  ⟨a, vs, e, .inl (.inl h), r2⟩
theorem RepW.scr {ds : List Dat} (h : RepW K A H v (.scr ds)) : ∃ a vs, v = .ref a ∧ SqL K H a vs ∧ Reps K A H vs ds := by
  cases h with
  | r h =>
    cases h with
    | scr h n r => exact ⟨_, _, rfl, .inl h, r⟩
    | scrK h r => exact ⟨_, _, rfl, .inr h, r⟩
theorem RepW.dict {ds : List (Key × Dat)} (h : RepW K A H v (.dic ds)) : ∃ a vs, v = .ref a ∧ Rd H a (.dK vs) ∧ RepK K A H vs ds := by
  cases h with
  | r h =>
    cases h with
    | dic h n r => exact ⟨_, _, rfl, h, r⟩
  | dic h r => exact ⟨_, _, rfl, .inl h, r⟩
theorem RepW.inst {C : Addr} {ds : List (Str × Dat)} (h : RepW K A H v (.ins C ds)) : ∃ a dx vs, v = .ref a ∧ H a = some (.ins C dx vs) ∧ RepF K A H vs ds := by
  cases h with
  | r h =>
    cases h with
    | ins h n r => exact ⟨_, _, _, rfl, h, r⟩
  | ins h r => exact ⟨_, _, _, rfl, h, r⟩
theorem RepW.rawv {u : V} (h : RepW K A H v (.raw u)) : v = u := by
  cases h with
  | r h => cases h; rfl
end

/-! ### readings -/
/-- an exception: its class, its fields -/
structure Xn where
  cls : Value
  fs : List (Str × Dat)
abbrev XC := Xn → G → Mem → Prop
abbrev RE := G → Mem → (Cv → Mem → Prop) → XC → Prop
abbrev RT := G → Mem → (Bool → Mem → Prop) → XC → Prop
abbrev RA := G → Mem → (List Cv → Mem → Prop) → XC → Prop
structure DEnds where
  nx : G → Mem → Prop
  rt : Cv → Mem → Prop
  bk : G → Mem → Prop := fun _ _ => False
  ct : G → Mem → Prop := fun _ _ => False
  ex : XC
abbrev RS := DEnds → G → Mem → Prop
def XnOk (K : PySem.W.Frag) (A : Addr → Prop) (H : Hp) (x : Xn) (cls : Value) (d : Option Addr) : Prop :=
  cls = x.cls ∧ match d with
    | none => x.fs = []
    | some dx => ∃ vs, H dx = some (.xd vs) ∧ RepF K A H vs x.fs
def CvsOk (K : PySem.W.Frag) (A : Addr → Prop) (H : Hp) (m : Mem) : List V → List Cv → Prop := Paired (CvOk K A H m)
/-- what an exception is to find -/
def ExTo (K : PySem.W.Frag) (W : WX) (A : Addr → Prop) (m : Mem) (H : Hp) (KE : XC) : Prop :=
  ∀ x g' A' m' σ' H' cls d, KE x g' m' → Step K A m H A' m' H' → CellsOk K A' H' σ' g' m' → XnOk K A' H' x cls d → W cls d σ' H'
def liftE (K : PySem.W.Frag) (W : WX) (r : RE) : TE := fun σ H Q => ∃ (A : Addr → Prop) (g : G) (m : Mem) (Kc : Cv → Mem → Prop) (KE : XC),
  MemOk K A H m ∧ CellsOk K A H σ g m ∧ r g m Kc KE ∧ (∀ c A' m' v H', Kc c m' → Step K A m H A' m' H' → CvOk K A' H' m' v c → Q v H') ∧ ExTo K W A m H KE
def liftT (K : PySem.W.Frag) (W : WX) (r : RT) : TT := fun σ H Q => ∃ (A : Addr → Prop) (g : G) (m : Mem) (Kc : Bool → Mem → Prop) (KE : XC),
  MemOk K A H m ∧ CellsOk K A H σ g m ∧ r g m Kc KE ∧ (∀ c A' m' H', Kc c m' → Step K A m H A' m' H' → Q c H') ∧ ExTo K W A m H KE
def liftA (K : PySem.W.Frag) (W : WX) (r : RA) : TA := fun σ H Q => ∃ (A : Addr → Prop) (g : G) (m : Mem) (Kc : List Cv → Mem → Prop) (KE : XC),
  MemOk K A H m ∧ CellsOk K A H σ g m ∧ r g m Kc KE ∧ (∀ cs A' m' vs H', Kc cs m' → Step K A m H A' m' H' → CvsOk K A' H' m' vs cs → Q vs H') ∧ ExTo K W A m H KE
def liftS (K : PySem.W.Frag) (W : WX) (r : RS) : TS := fun D σ H => ∃ (A : Addr → Prop) (g : G) (m : Mem) (E : DEnds),
  MemOk K A H m ∧ CellsOk K A H σ g m ∧ r E g m ∧
  (∀ g' A' m' σ' H', E.nx g' m' → Step K A m H A' m' H' → CellsOk K A' H' σ' g' m' → D.nx σ' H') ∧
  (∀ c A' m' v H', E.rt c m' → Step K A m H A' m' H' → CvOk K A' H' m' v c → D.rt v H') ∧
  (∀ g' A' m' σ' H', E.bk g' m' → Step K A m H A' m' H' → CellsOk K A' H' σ' g' m' → D.bk σ' H') ∧
  (∀ g' A' m' σ' H', E.ct g' m' → Step K A m H A' m' H' → CellsOk K A' H' σ' g' m' → D.ct σ' H') ∧
  ExTo K W A m H E.ex
abbrev DE (X : Cx) (W : WX) (e : Expr) (r : RE) : Prop := PE X e (liftE X.K W r)
abbrev DT (X : Cx) (W : WX) (e : Expr) (r : RT) : Prop := PT X e (liftT X.K W r)
abbrev DA (X : Cx) (W : WX) (e : List Expr) (r : RA) : Prop := PA X e (liftA X.K W r)
abbrev DS (X : Cx) (W : WX) (s : Stmt) (r : RS) : Prop := PS X s (liftS X.K W r)
abbrev DSs (X : Cx) (W : WX) (s : List Stmt) (r : RS) : Prop := PSs X s (liftS X.K W r)
theorem ExTo.step {K : PySem.W.Frag} {W : WX} {A A' : Addr → Prop} {m m' : Mem} {H H' : Hp} {KE : XC} (h : ExTo K W A m H KE) (s : Step K A m H A' m' H') : ExTo K W A' m' H' KE :=
  fun x g' A2 m2 σ' H2 cls d k t c o => h x g' A2 m2 σ' H2 cls d k (s.trans t) c o
/-- monotone readings -/
theorem PE.imp {X : Cx} {e : Expr} {t t' : TE} (h : PE X e t) (i : ∀ σ H Q, t' σ H Q → t σ H Q) : PE X e t' := ⟨fun pins s σ H Q I q => h.run pins s σ H Q I (i σ H Q q)⟩
theorem PT.imp {X : Cx} {e : Expr} {t t' : TT} (h : PT X e t) (i : ∀ σ H Q, t' σ H Q → t σ H Q) : PT X e t' := ⟨fun pins s σ H Q I q => h.run pins s σ H Q I (i σ H Q q)⟩
theorem PW.imp {X : Cx} {e : Expr} {t t' : TT} (h : PW X e t) (i : ∀ σ H Q, t' σ H Q → t σ H Q) : PW X e t' := ⟨fun wh pins s σ H Q I q => h.run wh pins s σ H Q I (i σ H Q q)⟩
theorem PA.imp {X : Cx} {e : List Expr} {t t' : TA} (h : PA X e t) (i : ∀ σ H Q, t' σ H Q → t σ H Q) : PA X e t' := ⟨fun pos pins s σ H Q I q => h.run pos pins s σ H Q I (i σ H Q q)⟩
theorem PS.imp {X : Cx} {e : Stmt} {t t' : TS} (h : PS X e t) (i : ∀ D σ H, t' D σ H → t D σ H) : PS X e t' := ⟨fun pins s σ H D I q => h.run pins s σ H D I (i D σ H q)⟩
theorem PSs.imp {X : Cx} {e : List Stmt} {t t' : TS} (h : PSs X e t) (i : ∀ D σ H, t' D σ H → t D σ H) : PSs X e t' := ⟨fun pins s σ H D I q => h.run pins s σ H D I (i D σ H q)⟩

/-! ### names, constants -/
def rVar (i : Nat) : RE := fun g m K _ => match slot g i with
  | some c => K c m
  | none => False
def rC (d : Dat) : RE := fun _ m K _ => K (.p d) m
section
variable {X : Cx} {W : WX} {pos : Pos}
theorem d_var {i : Nat} {x : Str} (h : PE X (.Name x pos) (tVar i)) : DE X W (.Name x pos) (rVar i) := PE.imp h fun σ H Q ⟨A, g, m, Kc, KE, hm, hc, q, k, _⟩ => by
  unfold rVar at q
  cases e : slot g i with
  | none => rw [e] at q; exact q.elim
  | some c =>
    rw [e] at q
    obtain ⟨v, h1, h2⟩ := hc.at_ i c (slot_eq e)
    exact ⟨v, h1, k c A m v H q (.refl hm) h2⟩
theorem d_con {e : Expr} {v : V} {d : Dat} (h : PE X e (tC v)) (r : ∀ A H, Rep X.K A H v d) : DE X W e (rC d) := PE.imp h fun σ H Q ⟨A, g, m, Kc, KE, hm, hc, q, k, _⟩ =>
  k (.p d) A m v H q (.refl hm) (r A H)
theorem d_int {i j} : DE X W (.Constant (.int i) j pos) (rC (.int i)) := d_con pe_int fun _ _ => .int i
theorem d_bl {i j} : DE X W (.Constant (.bool i) j pos) (rC (.bl i)) := d_con pe_bl fun _ _ => .bl i
theorem d_str {i j} : DE X W (.Constant (.str i) j pos) (rC (.str i)) := d_con pe_str fun _ _ => .str i
theorem d_non {j} : DE X W (.Constant .none j pos) (rC .non) := d_con pe_non fun _ _ => .non
end
end DL
/-! DL1: operators, comparisons, tests, displays, statements over plain data. -/
namespace DL
open PySem PySem.Spec PyProof.Rows L2
section
variable {X : Cx} {W : WX} {pos : Pos}
/-- what an expression's run leaves -/
def EvP (X : Cx) (pins : List (Addr × Obj)) (σ : L2.St) (A : Addr → Prop) (m : Mem) (H : Hp) (Kc : Cv → Mem → Prop) (u : Value) (s1 : Shared) : Prop :=
  ∃ v H1 A1 m1 c1, Inv X pins σ H1 s1 ∧ RelV v u ∧ Step X.K A m H A1 m1 H1 ∧ CvOk X.K A1 H1 m1 v c1 ∧ Kc c1 m1
theorem DE.go {e : Expr} {r : RE} (h : DE X W e r) {pins : List (Addr × Obj)} {s : Shared} {σ : L2.St} {H : Hp} {A : Addr → Prop} {g : G} {m : Mem} {Kc : Cv → Mem → Prop} {KE : XC}
    (I : Inv X pins σ H s) (hm : MemOk X.K A H m) (hc : CellsOk X.K A H σ g m) (q : r g m Kc KE) (ex : ExTo X.K W A m H KE) :
    wpAny (model X.prog X.w) X.A (eval e X.env) (EvP X pins σ A m H Kc) X.xe s :=
  thn (h.run pins s σ H (fun v H1 => ∃ A1 m1 c1, Step X.K A m H A1 m1 H1 ∧ CvOk X.K A1 H1 m1 v c1 ∧ Kc c1 m1) I ⟨A, g, m, Kc, KE, hm, hc, q, fun c A' m' v H' kc st cv => ⟨A', m', c, st, cv, kc⟩, ex⟩)
    fun u s1 ⟨v, H1, I1, rv, A1, m1, c1, st, cv, kc⟩ => ⟨v, H1, A1, m1, c1, I1, rv, st, cv, kc⟩
theorem DA.go {e : List Expr} {r : RA} (h : DA X W e r) {pins : List (Addr × Obj)} {s : Shared} {σ : L2.St} {H : Hp} {A : Addr → Prop} {g : G} {m : Mem} {Kc : List Cv → Mem → Prop} {KE : XC} (pos : Pos)
    (I : Inv X pins σ H s) (hm : MemOk X.K A H m) (hc : CellsOk X.K A H σ g m) (q : r g m Kc KE) (ex : ExTo X.K W A m H KE) :
    wpAny (model X.prog X.w) X.A (spliced (backTo pos (starEach e X.env))) (fun us s1 => ∃ vs H1 A1 m1 cs, Inv X pins σ H1 s1 ∧ Vals vs us ∧ Step X.K A m H A1 m1 H1 ∧ CvsOk X.K A1 H1 m1 vs cs ∧ Kc cs m1) X.xe s :=
  thn (h.run pos pins s σ H (fun v H1 => ∃ A1 m1 c1, Step X.K A m H A1 m1 H1 ∧ CvsOk X.K A1 H1 m1 v c1 ∧ Kc c1 m1) I ⟨A, g, m, Kc, KE, hm, hc, q, fun c A' m' v H' kc st cv => ⟨A', m', c, st, cv, kc⟩, ex⟩)
    fun u s1 ⟨v, H1, I1, rv, A1, m1, c1, st, cv, kc⟩ => ⟨v, H1, A1, m1, c1, I1, rv, st, cv, kc⟩
theorem DT.go {e : Expr} {r : RT} (h : DT X W e r) {pins : List (Addr × Obj)} {s : Shared} {σ : L2.St} {H : Hp} {A : Addr → Prop} {g : G} {m : Mem} {Kc : Bool → Mem → Prop} {KE : XC}
    (I : Inv X pins σ H s) (hm : MemOk X.K A H m) (hc : CellsOk X.K A H σ g m) (q : r g m Kc KE) (ex : ExTo X.K W A m H KE) :
    wpAny (model X.prog X.w) X.A (isTrue e X.env (eval e X.env)) (fun b s1 => ∃ H1 A1 m1, Inv X pins σ H1 s1 ∧ Step X.K A m H A1 m1 H1 ∧ Kc b m1) X.xe s :=
  thn (h.run pins s σ H (fun b H1 => ∃ A1 m1, Step X.K A m H A1 m1 H1 ∧ Kc b m1) I ⟨A, g, m, Kc, KE, hm, hc, q, fun c A' m' H' kc st => ⟨A', m', st, kc⟩, ex⟩)
    fun u s1 ⟨H1, I1, A1, m1, st, kc⟩ => ⟨H1, A1, m1, I1, st, kc⟩
/-- a DE from a run -/
theorem DE.mk {e : Expr} {r : RE} (h : ∀ (pins : List (Addr × Obj)) (s : Shared) (σ : L2.St) (H : Hp) (A : Addr → Prop) (g : G) (m : Mem) (Kc : Cv → Mem → Prop) (KE : XC),
    Inv X pins σ H s → MemOk X.K A H m → CellsOk X.K A H σ g m → r g m Kc KE → ExTo X.K W A m H KE → wpAny (model X.prog X.w) X.A (eval e X.env) (EvP X pins σ A m H Kc) X.xe s) : DE X W e r :=
  ⟨fun pins s σ H Q I ⟨A, g, m, Kc, KE, hm, hc, q, k, ex⟩ => thn (h pins s σ H A g m Kc KE I hm hc q ex) fun u s1 ⟨v, H1, A1, m1, c1, I1, rv, st, cv, kc⟩ => ⟨v, H1, I1, rv, k c1 A1 m1 v H1 kc st cv⟩⟩
theorem DT.mk {e : Expr} {r : RT} (h : ∀ (pins : List (Addr × Obj)) (s : Shared) (σ : L2.St) (H : Hp) (A : Addr → Prop) (g : G) (m : Mem) (Kc : Bool → Mem → Prop) (KE : XC),
    Inv X pins σ H s → MemOk X.K A H m → CellsOk X.K A H σ g m → r g m Kc KE → ExTo X.K W A m H KE → wpAny (model X.prog X.w) X.A (isTrue e X.env (eval e X.env)) (fun b s1 => ∃ H1 A1 m1, Inv X pins σ H1 s1 ∧ Step X.K A m H A1 m1 H1 ∧ Kc b m1) X.xe s) : DT X W e r :=
  ⟨fun pins s σ H Q I ⟨A, g, m, Kc, KE, hm, hc, q, k, ex⟩ => thn (h pins s σ H A g m Kc KE I hm hc q ex) fun u s1 ⟨H1, A1, m1, I1, st, kc⟩ => ⟨H1, I1, k u A1 m1 H1 kc st⟩⟩

/-! ### operators -/
abbrev F2 := Dat → Dat → (Dat → Prop) → Prop
abbrev F1 := Dat → (Dat → Prop) → Prop
abbrev FC := List Dat → (Dat → Prop) → Prop
def Al (A : Addr → Prop) (H : Hp) : Prop := ∀ b, A b → ∃ o, H b = some o
abbrev SameH (H H' : Hp) : Prop := ∀ b o, H b = some o → H' b = some o
/-- f on values does on data what F says -/
def OpD (X : Cx) (f : Value → Value → Sem Value) (F : F2) : Prop :=
  ∀ (pins : List (Addr × Obj)) (s : Shared) (σ : L2.St) (H : Hp) (x y : V) (v u : Value) (A : Addr → Prop) (d e : Dat) (KK : Dat → Prop) (Q : VK), Inv X pins σ H s → RelV x v → RelV y u → Al A H → RepW X.K A H x d → RepW X.K A H y e → F d e KK →
    (∀ d' z H', KK d' → SameH H H' → Rep X.K A H' z d' → Q z H') → wpAny (model X.prog X.w) X.A (f v u) (EP X pins σ Q) X.xe s
def UnD (X : Cx) (f : Value → Sem Value) (F : F1) : Prop :=
  ∀ (pins : List (Addr × Obj)) (s : Shared) (σ : L2.St) (H : Hp) (x : V) (v : Value) (A : Addr → Prop) (d : Dat) (KK : Dat → Prop) (Q : VK), Inv X pins σ H s → RelV x v → Al A H → RepW X.K A H x d → F d KK →
    (∀ d' z H', KK d' → SameH H H' → Rep X.K A H' z d' → Q z H') → wpAny (model X.prog X.w) X.A (f v) (EP X pins σ Q) X.xe s
/-- several values seen as data -/
def RepWs (K : PySem.W.Frag) (A : Addr → Prop) (H : Hp) : List V → List Dat → Prop := Paired (RepW K A H)
def CallD (X : Cx) (f : Value) (F : FC) : Prop :=
  ∀ (pins : List (Addr × Obj)) (s : Shared) (σ : L2.St) (H : Hp) (xs : List V) (us : List Value) (A : Addr → Prop) (ds : List Dat) (KK : Dat → Prop) (Q : VK), Inv X pins σ H s → Vals xs us → Al A H → RepWs X.K A H xs ds → F ds KK →
    (∀ d' z H', KK d' → SameH H H' → Rep X.K A H' z d' → Q z H') → wpAny (model X.prog X.w) X.A (call f us) (EP X pins σ Q) X.xe s
theorem OpD.of {f : Value → Value → Sem Value} {F : F2} {r : R2} (h : OpR X f r)
    (i : ∀ (H : Hp) (x y : V) (A : Addr → Prop) (d e : Dat) (KK : Dat → Prop) (Q : VK), Al A H → RepW X.K A H x d → RepW X.K A H y e → F d e KK → (∀ d' z H', KK d' → SameH H H' → Rep X.K A H' z d' → Q z H') → r x y H Q) : OpD X f F :=
  fun pins s σ H x y v u A d e KK Q I rx ry al wx wy q k => h pins s σ H x y v u Q I rx ry (i H x y A d e KK Q al wx wy q k)
theorem UnD.of {f : Value → Sem Value} {F : F1} {r : V → Hp → VK → Prop} (h : UnR X f r)
    (i : ∀ (H : Hp) (x : V) (A : Addr → Prop) (d : Dat) (KK : Dat → Prop) (Q : VK), Al A H → RepW X.K A H x d → F d KK → (∀ d' z H', KK d' → SameH H H' → Rep X.K A H' z d' → Q z H') → r x H Q) : UnD X f F :=
  fun pins s σ H x v A d KK Q I rx al wx q k => h pins s σ H x v Q I rx (i H x A d KK Q al wx q k)
theorem CallD.of {f : Value} {F : FC} {r : List V → Hp → VK → Prop} (h : CallR X f r)
    (i : ∀ (H : Hp) (xs : List V) (A : Addr → Prop) (ds : List Dat) (KK : Dat → Prop) (Q : VK), Al A H → RepWs X.K A H xs ds → F ds KK → (∀ d' z H', KK d' → SameH H H' → Rep X.K A H' z d' → Q z H') → r xs H Q) : CallD X f F :=
  fun pins s σ H xs us A ds KK Q I rx al wx q k => h pins s σ H xs us Q I rx (i H xs A ds KK Q al wx q k)
theorem OpD.or {f : Value → Value → Sem Value} {F F' : F2} (h : OpD X f F) (h' : OpD X f F') : OpD X f (fun d e K => F d e K ∨ F' d e K) :=
  fun pins s σ H x y v u A d e KK Q I rx ry al wx wy q k => q.elim (fun q => h pins s σ H x y v u A d e KK Q I rx ry al wx wy q k) fun q => h' pins s σ H x y v u A d e KK Q I rx ry al wx wy q k
theorem CallD.or {f : Value} {F F' : FC} (h : CallD X f F) (h' : CallD X f F') : CallD X f (fun d K => F d K ∨ F' d K) :=
  fun pins s σ H xs us A ds KK Q I rx al wx q k => q.elim (fun q => h pins s σ H xs us A ds KK Q I rx al wx q k) fun q => h' pins s σ H xs us A ds KK Q I rx al wx q k
theorem OpD.imp {f : Value → Value → Sem Value} {F F' : F2} (h : OpD X f F) (i : ∀ d e K, F' d e K → F d e K) : OpD X f F' :=
  fun pins s σ H x y v u A d e KK Q I rx ry al wx wy q k => h pins s σ H x y v u A d e KK Q I rx ry al wx wy (i _ _ _ q) k
theorem CallD.imp {f : Value} {F F' : FC} (h : CallD X f F) (i : ∀ d K, F' d K → F d K) : CallD X f F' :=
  fun pins s σ H xs us A ds KK Q I rx al wx q k => h pins s σ H xs us A ds KK Q I rx al wx (i _ _ q) k
theorem Al.of {A : Addr → Prop} {H : Hp} {K : PySem.W.Frag} {m : Mem} (h : MemOk K A H m) : Al A H := h.al
theorem Al.not {A : Addr → Prop} {H : Hp} (h : Al A H) {p : Addr} (hp : H p = none) : ¬ A p := fun z => by
  obtain ⟨o, e⟩ := h p z
  rw [hp] at e; cases e
/-- the end of an operation on data: nothing that stood has changed -/
theorem evp_end {pins : List (Addr × Obj)} {σ : L2.St} {A A1 : Addr → Prop} {m m1 : Mem} {H H1 : Hp} {Kc : Cv → Mem → Prop} {u : Value} {s' : Shared} {KK : Dat → Prop}
    (hm : MemOk X.K A H m) (st : Step X.K A m H A1 m1 H1) (kk : ∀ d, KK d → Kc (.p d) m1)
    (h : EP X pins σ (fun z H' => ∃ d, KK d ∧ SameH H1 H' ∧ Rep X.K A1 H' z d) u s') : EvP X pins σ A m H Kc u s' := by
  obtain ⟨v, H', I', rv, d, k, sm, rp⟩ := h
  exact ⟨v, H', A1, m1, .p d, I', rv, st.trans (.same st.mem sm), rp, kk d k⟩
def rOp (F : F2) (ra rb : RE) : RE := fun g m K KE => ra g m (fun c m1 => rb g m1 (fun e m2 => F (view m2 c) (view m2 e) fun d => K (.p d) m2) KE) KE
theorem d_bin {a b : Expr} {ra rb : RE} {f : Value → Value → Sem Value} {F : F2} {pins : List (Addr × Obj)} {s : Shared} {σ : L2.St} {H : Hp} {A : Addr → Prop} {g : G} {m : Mem} {Kc : Cv → Mem → Prop} {KE : XC}
    (ho : OpD X f F) (ha : DE X W a ra) (hb : DE X W b rb) (I : Inv X pins σ H s) (hm : MemOk X.K A H m) (hc : CellsOk X.K A H σ g m) (q : rOp F ra rb g m Kc KE) (ex : ExTo X.K W A m H KE) :
    wpAny (model X.prog X.w) X.A (eval a X.env) (fun v s₁ => wpAny (model X.prog X.w) X.A (eval b X.env) (fun u s₂ => wpAny (model X.prog X.w) X.A (f v u) (EvP X pins σ A m H Kc) X.xe s₂) X.xe s₁) X.xe s := by
  refine thn (DE.go ha I hm hc q ex) fun v s1 ⟨x, H1, A1, m1, c1, I1, rx, st1, cv1, q1⟩ => ?_
  refine thn (DE.go hb I1 st1.mem (hc.step hm st1) q1 (ex.step st1)) fun u s2 ⟨y, H2, A2, m2, c2, I2, ry, st2, cv2, q2⟩ => ?_
  refine thn (ho pins s2 σ H2 x y v u A2 _ _ _ (fun z H' => ∃ d, Kc (.p d) m2 ∧ SameH H2 H' ∧ Rep X.K A2 H' z d) I2 rx ry st2.mem.al ((cv1.step st1.mem st2).w st2.mem) (cv2.w st2.mem) q2 fun d z H' k sm rp => ⟨d, k, sm, rp⟩) fun z s3 h3 => ?_
  exact evp_end hm (st1.trans st2) (fun d k => k) h3
theorem d_op {a b : Expr} {op : Operator} {ra rb : RE} {F : F2} (ho : OpD X (binaryOp op) F) (ha : DE X W a ra) (hb : DE X W b rb) : DE X W (.BinOp a op b pos) (rOp F ra rb) :=
  .mk fun pins s σ H A g m Kc KE I hm hc q ex => wpAny_BinOp (d_bin ho ha hb I hm hc q ex)
theorem d_cmp {a b : Expr} {op : CmpOp} {ra rb : RE} {F : F2} (ho : OpD X (compareOp op) F) (ha : DE X W a ra) (hb : DE X W b rb) (hb1 : behindInMarks op b = false := by first | exact nomark _ | rfl) : DE X W (.Compare a [op] [b] pos) (rOp F ra rb) :=
  .mk fun pins s σ H A g m Kc KE I hm hc q ex => wpAny_Compare1 (d_bin ho ha hb I hm hc q ex) hb1
def rUn (F : F1) (ra : RE) : RE := fun g m K KE => ra g m (fun c m1 => F (view m1 c) fun d => K (.p d) m1) KE
theorem d_un {a : Expr} {op : UnaryOp} {ra : RE} {F : F1} (ho : UnD X (unaryOp op) F) (ha : DE X W a ra) : DE X W (.UnaryOp op a pos) (rUn F ra) :=
  .mk fun pins s σ H A g m Kc KE I hm hc q ex => UnaryOp_ (thn (DE.go ha I hm hc q ex) fun v s1 ⟨x, H1, A1, m1, c1, I1, rx, st1, cv1, q1⟩ =>
    thn (ho pins s1 σ H1 x v A1 _ _ (fun z H' => ∃ d, Kc (.p d) m1 ∧ SameH H1 H' ∧ Rep X.K A1 H' z d) I1 rx st1.mem.al (cv1.w st1.mem) q1 fun d z H' k sm rp => ⟨d, k, sm, rp⟩) fun z s3 h3 => evp_end hm st1 (fun d k => k) h3)

/-! ### argument lists -/
def rNil : RA := fun _ m K _ => K [] m
def rCons (ra : RE) (rr : RA) : RA := fun g m K KE => ra g m (fun c m1 => rr g m1 (fun cs m2 => K (c :: cs) m2) KE) KE
theorem da_nil : DA X W [] rNil := PA.imp pa_nil fun σ H Q ⟨A, g, m, Kc, KE, hm, hc, q, k, _⟩ => k [] A m [] H q (.refl hm) .nil
theorem da_cons {e : Expr} {es : List Expr} {ra : RE} {rr : RA} (ha : DE X W e ra) (hr : DA X W es rr) (hs : starEach (e :: es) X.env = (false, eval e X.env) :: starEach es X.env := by rfl) : DA X W (e :: es) (rCons ra rr) := by
  refine PA.imp (pa_cons ha hr hs) fun σ H Q ⟨A, g, m, Kc, KE, hm, hc, q, k, ex⟩ => ?_
  refine ⟨A, g, m, _, KE, hm, hc, q, fun c A1 m1 x H1 q1 st1 cv1 => ?_, ex⟩
  refine ⟨A1, g, m1, _, KE, st1.mem, hc.step hm st1, q1, fun cs A2 m2 xs H2 q2 st2 cv2 => ?_, ex.step st1⟩
  exact k (c :: cs) A2 m2 (x :: xs) H2 q2 (st1.trans st2) (.cons (cv1.step st1.mem st2) cv2)
theorem CvsOk.w {K : PySem.W.Frag} {A : Addr → Prop} {H : Hp} {m : Mem} (h : MemOk K A H m) : ∀ {vs : List V} {cs : List Cv}, CvsOk K A H m vs cs → RepWs K A H vs (cs.map (view m))
  | _, _, .nil => .nil
  | _, _, .cons r t => .cons (r.w h) (CvsOk.w h t)
/-- data cells as data; what may change may not go into plain data -/
def datOf : Cv → Option Dat
  | .p d => some d
  | .l _ _ => none
def datsOf : List Cv → Option (List Dat)
  | [] => some []
  | .p d :: cs => (datsOf cs).map (d :: ·)
  | .l _ _ :: _ => none
theorem datsOf_ok {K : PySem.W.Frag} {A : Addr → Prop} {H : Hp} {m : Mem} : ∀ {vs : List V} {cs : List Cv} {ds : List Dat}, CvsOk K A H m vs cs → datsOf cs = some ds → Reps K A H vs ds
  | _, _, _, .nil, e => by cases e; exact .nil
  | _, .p d :: cs, ds, .cons r t, e => by
    unfold datsOf at e
    cases q : datsOf cs with
    | none => rw [q] at e; cases e
    | some es =>
      rw [q] at e
      cases e
      exact .cons r (datsOf_ok t q)
  | _, .l n i :: _, _, .cons r t, e => by cases e
/-- what is demanded of the cells: all are data -/
def allDat (cs : List Cv) (K : List Dat → Prop) : Prop := match datsOf cs with
  | some ds => K ds
  | none => False
theorem allDat_ok {cs : List Cv} {K : List Dat → Prop} (h : allDat cs K) : ∃ ds, datsOf cs = some ds ∧ K ds := by
  unfold allDat at h
  cases e : datsOf cs with
  | none => rw [e] at h; exact h.elim
  | some ds => rw [e] at h; exact ⟨ds, rfl, h⟩
def rTup (ra : RA) : RE := fun g m K KE => ra g m (fun cs m1 => allDat cs fun ds => ds.length ≤ sizeLine ∧ K (.p (.tup ds)) m1) KE
def rLst (ra : RA) : RE := fun g m K KE => ra g m (fun cs m1 => allDat cs fun ds => ds.length ≤ sizeLine ∧ K (.p (.lst ds)) m1) KE
theorem d_tup {es : List Expr} {k} {ra : RA} (h : DA X W es ra) : DE X W (.Tuple es k pos) (rTup ra) := by
  refine PE.imp (pe_tup h) fun σ H Q ⟨A, g, m, Kc, KE, hm, hc, q, k, ex⟩ => ?_
  refine ⟨A, g, m, _, KE, hm, hc, q, fun cs A1 m1 xs H1 q1 st1 cv1 => ?_, ex⟩
  obtain ⟨ds, e, hl, q2⟩ := allDat_ok q1
  have r := datsOf_ok cv1 e
  refine ⟨by rw [r.length]; exact hl, fun p hp => k _ A1 m1 _ _ q2 (st1.trans (.fresh st1.mem hp)) ?_⟩
  exact .tup (.inl upd_same) (Al.not st1.mem.al hp) (r.step st1.mem (.fresh st1.mem hp))
theorem d_lst {es : List Expr} {ra : RA} (h : DA X W es ra) : DE X W (.List es pos) (rLst ra) := by
  refine PE.imp (pe_lst h) fun σ H Q ⟨A, g, m, Kc, KE, hm, hc, q, k, ex⟩ => ?_
  refine ⟨A, g, m, _, KE, hm, hc, q, fun cs A1 m1 xs H1 q1 st1 cv1 => ?_, ex⟩
  obtain ⟨ds, e, hl, q2⟩ := allDat_ok q1
  have r := datsOf_ok cv1 e
  refine ⟨by rw [r.length]; exact hl, fun p hp => k _ A1 m1 _ _ q2 (st1.trans (.fresh st1.mem hp)) ?_⟩
  exact .lst upd_same (Al.not st1.mem.al hp) (r.step st1.mem (.fresh st1.mem hp))
/-- a list display whose list may change: behind the objects of the first frame -/
def newLst (ds : List Dat) (m : Mem) (K : Cv → Mem → Prop) : Prop := match m with
  | f :: r => ∀ p, K (.l 0 f.length) ((f ++ [(p, .lst ds)]) :: r)
  | [] => False
theorem fget_push (f : List (Addr × Lo)) (x : Addr × Lo) : fget (f ++ [x]) f.length = some x := by
  rw [fget_eq]; simp
theorem newLst_ok {A A1 : Addr → Prop} {m m1 : Mem} {H H1 : Hp} {ds : List Dat} {vs : List V} {Kc : Cv → Mem → Prop} {Q : VK} {p : Addr} (h : newLst ds m1 Kc) (st : Step X.K A m H A1 m1 H1) (hp : H1 p = none) (r : Reps X.K A1 H1 vs ds)
    (k : ∀ c A' m' v H', Kc c m' → Step X.K A m H A' m' H' → CvOk X.K A' H' m' v c → Q v H') : Q (.ref p) (upd H1 p (.lst vs)) := by
  cases m1 with
  | nil => exact h.elim
  | cons f rr => exact k _ _ _ _ _ (h p) (st.trans (.pushL st.mem hp r)) ⟨p, .lst ds, fget_push f _, rfl⟩
def rNewL (ra : RA) : RE := fun g m K KE => ra g m (fun cs m1 => allDat cs fun ds => ds.length ≤ sizeLine ∧ newLst ds m1 K) KE
theorem d_newL {es : List Expr} {ra : RA} (h : DA X W es ra) : DE X W (.List es pos) (rNewL ra) := by
  refine PE.imp (pe_lst h) fun σ H Q ⟨A, g, m, Kc, KE, hm, hc, q, k, ex⟩ => ?_
  refine ⟨A, g, m, _, KE, hm, hc, q, fun cs A1 m1 xs H1 q1 st1 cv1 => ?_, ex⟩
  obtain ⟨ds, e, hl, q2⟩ := allDat_ok q1
  have r := datsOf_ok cv1 e
  exact ⟨by rw [r.length]; exact hl, fun p hp => newLst_ok q2 st1 hp r k⟩

/-! ### tests -/
/-- a value's truth -/
def truD : Dat → (Bool → Prop) → Prop
  | .bl b, K => K b
  | .int i, K => K (i != 0)
  | .non, K => K false
  | .str x, K => x.length ≤ sizeLine ∧ K (x.length != 0)
  | .tup xs, K => K (!xs.isEmpty)
  | .lst xs, K => K (!xs.isEmpty)
  | .scr xs, K => K (!xs.isEmpty)
  | .dic xs, K => K (!xs.isEmpty)
  | _, _ => False
theorem isEmpty_reps {K : PySem.W.Frag} {A : Addr → Prop} {H : Hp} {vs : List V} {ds : List Dat} (h : Reps K A H vs ds) : vs.isEmpty = ds.isEmpty := by
  cases h <;> rfl
theorem isEmpty_repk {K : PySem.W.Frag} {A : Addr → Prop} {H : Hp} {vs : List (Key × V)} {ds : List (Key × Dat)} (h : RepK K A H vs ds) : vs.isEmpty = ds.isEmpty := by
  cases h <;> rfl
end
end DL
/-! DL2: tests, statements, loops, comprehensions over plain data. -/
namespace DL
open PySem PySem.Spec PyProof.Rows L2
section
variable {X : Cx} {W : WX} {pos : Pos}
/-! ### tests -/
def TruD (X : Cx) (F : Dat → (Bool → Prop) → Prop) : Prop :=
  ∀ (pins : List (Addr × Obj)) (s : Shared) (σ : L2.St) (H : Hp) (x : V) (v : Value) (A : Addr → Prop) (d : Dat) (KK : Bool → Prop), Inv X pins σ H s → RelV x v → RepW X.K A H x d → F d KK →
    wpAny (model X.prog X.w) X.A (truthy v) (fun b s1 => Inv X pins σ H s1 ∧ KK b) X.xe s
theorem tru_dat : TruD X truD := by
  intro pins s σ H x v A d KK I rx wx q
  have t := @tru_ok X
  have go : ∀ k : Bool, TruV X.K x H k → KK k → wpAny (model X.prog X.w) X.A (truthy v) (fun b s1 => Inv X pins σ H s1 ∧ KK b) X.xe s := fun k e q =>
    thn (t pins s σ H x v (fun b H1 => H1 = H ∧ KK b) I rx ⟨k, e, rfl, q⟩) fun b s1 ⟨H1, I1, e, q⟩ => by subst e; exact ⟨I1, q⟩
  cases d with
  | non => cases wx.non; exact go false rfl q
  | bl b => cases wx.bl; exact go b rfl q
  | int i => cases wx.int; exact go _ rfl q
  | str y =>
    cases wx.str
    refine go _ ⟨q.1, rfl⟩ ?_
    have e : ((y.length : Int) != 0) = (y.length != 0) := by
      cases q : y.length with
      | zero => rfl
      | succ n => simp; omega
    rw [e]; exact q.2
  | tup ds =>
    obtain ⟨a, vs, rfl, h, r⟩ := wx.tup
    exact go _ (.inr (.inl ⟨vs, h, by rw [isEmpty_reps r]⟩)) q
  | lst ds =>
    obtain ⟨a, vs, rfl, h, r⟩ := wx.seq
    exact go _ (.inl ⟨vs, h, by rw [isEmpty_reps r]⟩) q
  | scr ds =>
    obtain ⟨a, vs, rfl, h, r⟩ := wx.scr
    exact go _ (.inl ⟨vs, h, by rw [isEmpty_reps r]⟩) q
  | dic ds =>
    obtain ⟨a, vs, rfl, h, r⟩ := wx.dict
    cases rx
    obtain ⟨hz, hS, ws, rr, mm⟩ : vs.length ≤ sizeLine ∧ (a == sysModules) = false ∧ ∃ ws, KV vs ws ∧ s.heap.DictOf (mixKind X.prog X.w) a ws := h.ok I.hok
    have hlen : vs.length = ws.length := Paired.length rr
    have hl := line63
    exact wpAny_truthy_dict hS mm (by omega) ⟨I.tok _, by rw [isEmpty_kv rr, isEmpty_repk r]; exact q⟩
  | ins C fs => exact q.elim
  | raw u => exact q.elim
def rTr (ra : RE) : RT := fun g m K KE => ra g m (fun c m1 => truD (view m1 c) fun b => K b m1) KE
theorem dt_val {e : Expr} {ra : RE} (h : DE X W e ra) (he : ∀ whole, isTrue e X.env whole = (do let v ← whole; standAt e.pos; holding [v] (truthy v)) := by intro _; rfl) : DT X W e (rTr ra) :=
  .mk fun pins s σ H A g m Kc KE I hm hc q ex => isTrue_plain (thn (DE.go h I hm hc q ex) fun v s1 ⟨x, H1, A1, m1, c1, I1, rx, st1, cv1, q1⟩ =>
    thn (tru_dat pins s1 σ H1 x v A1 _ _ I1 rx (cv1.w st1.mem) q1) fun b s2 ⟨I2, q2⟩ => ⟨H1, A1, m1, I2, st1, q2⟩) (he _)
/-- a bool's truth -/
def blD : Dat → (Bool → Prop) → Prop
  | .bl b, K => K b
  | _, _ => False
theorem blD_ok {d : Dat} {K : Bool → Prop} (h : blD d K) : ∃ b, d = .bl b ∧ K b := by
  cases d <;> first | exact h.elim | exact ⟨_, rfl, h⟩
/-- a cell that is a bool -/
def blC : Cv → (Bool → Prop) → Prop
  | .p d, K => blD d K
  | _, _ => False
def rTe (ra : RE) : RT := fun g m K KE => ra g m (fun c m1 => blC c fun b => K b m1) KE
theorem dt_cmp {a b : Expr} {op : CmpOp} {ra rb : RE} {F : F2} (ho : OpD X (compareOp op) F) (ha : DE X W a ra) (hb : DE X W b rb) (hb1 : behindInMarks op b = false := by first | exact nomark _ | rfl) : DT X W (.Compare a [op] [b] pos) (rTe (rOp F ra rb)) := by
  refine .mk fun pins s σ H A g m Kc KE I hm hc q ex => ?_
  refine wpAny_isTrue_Compare1 ?_ hb1
  refine thn (d_bin ho ha hb I hm hc q ex) fun v s1 h1 => thn h1 fun u s2 h2 => thn h2 fun z s3 ⟨x, H3, A3, m3, c3, I3, rx, st3, cv3, k3⟩ => ?_
  cases c3 with
  | l n i => exact k3.elim
  | p d =>
    obtain ⟨b, rfl, k⟩ := blD_ok k3
    cases cv3
    cases rx
    exact wpAny_truthy_bool ⟨H3, A3, m3, I3, st3, k⟩
abbrev DW (X : Cx) (W : WX) (e : Expr) (r : RT) : Prop := PW X e (liftT X.K W r)
def rAnd (t u : RT) : RT := fun g m K KE => t g m (fun b m1 => if b = true then u g m1 K KE else K false m1) KE
def rOr (t u : RT) : RT := fun g m K KE => t g m (fun b m1 => if b = true then K true m1 else u g m1 K KE) KE
def rNot (t : RT) : RT := fun g m K KE => t g m (fun b m1 => K (!b) m1) KE
variable {a b : Expr} {rest : List Expr} {t u : RT}
theorem dw_and1 (ha : DT X W a t) : DW X W (.BoolOp .And [a] pos) t := pw_and1 ha
theorem dw_or1 (ha : DT X W a t) : DW X W (.BoolOp .Or [a] pos) t := pw_or1 ha
theorem dw_and (ha : DT X W a t) (hb : DW X W (.BoolOp .And (b :: rest) pos) u) : DW X W (.BoolOp .And (a :: b :: rest) pos) (rAnd t u) := by
  refine PW.imp (pw_and ha hb) fun σ H Q ⟨A, g, m, Kc, KE, hm, hc, q, k, ex⟩ => ?_
  refine ⟨A, g, m, _, KE, hm, hc, q, fun c A1 m1 H1 q1 st1 => ?_, ex⟩
  cases c with
  | true => exact ⟨A1, g, m1, Kc, KE, st1.mem, hc.step hm st1, q1, fun c A2 m2 H2 q2 st2 => k c A2 m2 H2 q2 (st1.trans st2), ex.step st1⟩
  | false => exact k false A1 m1 H1 q1 st1
theorem dw_or (ha : DT X W a t) (hb : DW X W (.BoolOp .Or (b :: rest) pos) u) : DW X W (.BoolOp .Or (a :: b :: rest) pos) (rOr t u) := by
  refine PW.imp (pw_or ha hb) fun σ H Q ⟨A, g, m, Kc, KE, hm, hc, q, k, ex⟩ => ?_
  refine ⟨A, g, m, _, KE, hm, hc, q, fun c A1 m1 H1 q1 st1 => ?_, ex⟩
  cases c with
  | false => exact ⟨A1, g, m1, Kc, KE, st1.mem, hc.step hm st1, q1, fun c A2 m2 H2 q2 st2 => k c A2 m2 H2 q2 (st1.trans st2), ex.step st1⟩
  | true => exact k true A1 m1 H1 q1 st1
theorem dt_w {e : Expr} (h : DW X W e t) : DT X W e t := PW.pt h
theorem dt_not (ha : DT X W a t) : DT X W (.UnaryOp .Not a pos) (rNot t) := PT.imp (pt_not ha) fun σ H Q ⟨A, g, m, Kc, KE, hm, hc, q, k, ex⟩ =>
  ⟨A, g, m, _, KE, hm, hc, q, fun c A1 m1 H1 q1 st1 => k (!c) A1 m1 H1 q1 st1, ex⟩
/-- not e as a value -/
theorem de_not {ra : RE} (ha : DT X W a t) (hn : ∀ E, eval (.UnaryOp .Not a pos) E = (do let b ← isTrue a E (eval a E); pure (.bool !b))) : DE X W (.UnaryOp .Not a pos) (fun g m K KE => t g m (fun b m1 => K (.p (.bl (!b))) m1) KE) := by
  refine .mk fun pins s σ H A g m Kc KE I hm hc q ex => ?_
  rw [hn]
  refine wpAny_bind (thn (DT.go ha I hm hc q ex) fun b s1 ⟨H1, A1, m1, I1, st1, k1⟩ => wpAny_pure ⟨.bl (!b), H1, A1, m1, .p (.bl (!b)), I1, rfl, st1, Rep.bl _, k1⟩)
/-! ### values by and, or; a if t else b -/
def rAndV (ra rb : RE) : RE := fun g m K KE => ra g m (fun c m1 => truD (view m1 c) fun b => if b = true then rb g m1 K KE else K c m1) KE
def rOrV (ra rb : RE) : RE := fun g m K KE => ra g m (fun c m1 => truD (view m1 c) fun b => if b = true then K c m1 else rb g m1 K KE) KE
def rIf (t : RT) (ra rb : RE) : RE := fun g m K KE => t g m (fun b m1 => if b = true then ra g m1 K KE else rb g m1 K KE) KE
theorem de_one {op : BoolOp} {ra : RE} (h : DE X W a ra) : DE X W (.BoolOp op [a] pos) ra := pe_one h
theorem de_and {ra rb : RE} (ha : DE X W a ra) (hb : DE X W (.BoolOp .And (b :: rest) pos) rb) : DE X W (.BoolOp .And (a :: b :: rest) pos) (rAndV ra rb) := by
  refine .mk fun pins s σ H A g m Kc KE I hm hc q ex => ?_
  refine BoolOp_and (thn (DE.go ha I hm hc q ex) fun v s1 ⟨x, H1, A1, m1, c1, I1, rx, st1, cv1, q1⟩ => ?_)
  refine thn (tru_dat pins s1 σ H1 x v A1 _ _ I1 rx (cv1.w st1.mem) q1) fun c s2 ⟨I2, q2⟩ => ?_
  cases c with
  | true => exact thn (DE.go hb I2 st1.mem (hc.step hm st1) q2 (ex.step st1)) fun u s3 ⟨y, H3, A3, m3, c3, I3, ry, st3, cv3, q3⟩ => ⟨y, H3, A3, m3, c3, I3, ry, st1.trans st3, cv3, q3⟩
  | false => exact ⟨x, H1, A1, m1, c1, I2, rx, st1, cv1, q2⟩
theorem de_or {ra rb : RE} (ha : DE X W a ra) (hb : DE X W (.BoolOp .Or (b :: rest) pos) rb) : DE X W (.BoolOp .Or (a :: b :: rest) pos) (rOrV ra rb) := by
  refine .mk fun pins s σ H A g m Kc KE I hm hc q ex => ?_
  refine BoolOp_or (thn (DE.go ha I hm hc q ex) fun v s1 ⟨x, H1, A1, m1, c1, I1, rx, st1, cv1, q1⟩ => ?_)
  refine thn (tru_dat pins s1 σ H1 x v A1 _ _ I1 rx (cv1.w st1.mem) q1) fun c s2 ⟨I2, q2⟩ => ?_
  cases c with
  | false => exact thn (DE.go hb I2 st1.mem (hc.step hm st1) q2 (ex.step st1)) fun u s3 ⟨y, H3, A3, m3, c3, I3, ry, st3, cv3, q3⟩ => ⟨y, H3, A3, m3, c3, I3, ry, st1.trans st3, cv3, q3⟩
  | true => exact ⟨x, H1, A1, m1, c1, I2, rx, st1, cv1, q2⟩
theorem de_if {c : Expr} {ra rb : RE} (hc : DT X W c t) (ha : DE X W a ra) (hb : DE X W b rb) : DE X W (.IfExp c a b pos) (rIf t ra rb) := by
  refine PE.imp (pe_ifExp hc ha hb) fun σ H Q ⟨A, g, m, Kc, KE, hm, hcl, q, k, ex⟩ => ?_
  refine ⟨A, g, m, _, KE, hm, hcl, q, fun b A1 m1 H1 q1 st1 => ?_, ex⟩
  cases b with
  | true => exact ⟨A1, g, m1, Kc, KE, st1.mem, hcl.step hm st1, q1, fun c A2 m2 v H2 q2 st2 cv => k c A2 m2 v H2 q2 (st1.trans st2) cv, ex.step st1⟩
  | false => exact ⟨A1, g, m1, Kc, KE, st1.mem, hcl.step hm st1, q1, fun c A2 m2 v H2 q2 st2 cv => k c A2 m2 v H2 q2 (st1.trans st2) cv, ex.step st1⟩
/-! ### statements -/
def rPass : RS := fun E g m => E.nx g m
def rSeq (t u : RS) : RS := fun E g m => t { E with nx := u E } g m
def rRet (ra : RE) : RS := fun E g m => ra g m E.rt E.ex
def rRetN : RS := fun E _ m => E.rt (.p .non) m
def rDrop (ra : RE) : RS := fun E g m => ra g m (fun _ m1 => E.nx g m1) E.ex
def rIfS (t : RT) (u w : RS) : RS := fun E g m => t g m (fun b m1 => if b = true then u E g m1 else w E g m1) E.ex
def rSet (i : Nat) (ra : RE) : RS := fun E g m => ra g m (fun c m1 => E.nx (put g i (some c)) m1) E.ex
def rBreak : RS := fun E g m => E.bk g m
def rCont : RS := fun E g m => E.ct g m
/-- what a statement's readings hand on -/
structure Ends' (K : PySem.W.Frag) (W : WX) (A : Addr → Prop) (m : Mem) (H : Hp) (E : DEnds) (D : Ends) : Prop where
  nx : ∀ g' A' m' σ' H', E.nx g' m' → Step K A m H A' m' H' → CellsOk K A' H' σ' g' m' → D.nx σ' H'
  rt : ∀ c A' m' v H', E.rt c m' → Step K A m H A' m' H' → CvOk K A' H' m' v c → D.rt v H'
  bk : ∀ g' A' m' σ' H', E.bk g' m' → Step K A m H A' m' H' → CellsOk K A' H' σ' g' m' → D.bk σ' H'
  ct : ∀ g' A' m' σ' H', E.ct g' m' → Step K A m H A' m' H' → CellsOk K A' H' σ' g' m' → D.ct σ' H'
  ex : ExTo K W A m H E.ex
theorem Ends'.step {K : PySem.W.Frag} {W : WX} {A A' : Addr → Prop} {m m' : Mem} {H H' : Hp} {E : DEnds} {D : Ends} (h : Ends' K W A m H E D) (s : Step K A m H A' m' H') : Ends' K W A' m' H' E D :=
  ⟨fun g' A2 m2 σ' H2 q t c => h.nx g' A2 m2 σ' H2 q (s.trans t) c, fun c A2 m2 v H2 q t cv => h.rt c A2 m2 v H2 q (s.trans t) cv, fun g' A2 m2 σ' H2 q t c => h.bk g' A2 m2 σ' H2 q (s.trans t) c,
    fun g' A2 m2 σ' H2 q t c => h.ct g' A2 m2 σ' H2 q (s.trans t) c, h.ex.step s⟩
theorem liftS_mk {K : PySem.W.Frag} {r : RS} {D : Ends} {σ : L2.St} {H : Hp} {A : Addr → Prop} {g : G} {m : Mem} {E : DEnds} (hm : MemOk K A H m) (hc : CellsOk K A H σ g m) (q : r E g m) (e : Ends' K W A m H E D) : liftS K W r D σ H :=
  ⟨A, g, m, E, hm, hc, q, e.nx, e.rt, e.bk, e.ct, e.ex⟩
theorem liftS_el {K : PySem.W.Frag} {r : RS} {D : Ends} {σ : L2.St} {H : Hp} (h : liftS K W r D σ H) : ∃ (A : Addr → Prop) (g : G) (m : Mem) (E : DEnds), MemOk K A H m ∧ CellsOk K A H σ g m ∧ r E g m ∧ Ends' K W A m H E D := by
  obtain ⟨A, g, m, E, hm, hc, q, e1, e2, e3, e4, e5⟩ := h
  exact ⟨A, g, m, E, hm, hc, q, ⟨e1, e2, e3, e4, e5⟩⟩
theorem CellsOk.put {K : PySem.W.Frag} {A : Addr → Prop} {H : Hp} {σ : L2.St} {g : G} {m : Mem} {v : V} {c : Cv} (h : CellsOk K A H σ g m) (i : Nat) (cv : CvOk K A H m v c) : CellsOk K A H (σ.set i (some v)) (put g i (some c)) m := by
  rw [put_eq]
  refine ⟨by rw [List.length_set, List.length_set]; exact h.len, fun j c' e => ?_⟩
  by_cases hj : i = j
  · subst hj
    have hl : i < g.length := by
      have := (List.getElem?_eq_some_iff.mp e).1
      simpa using this
    rw [List.getElem?_set_self hl] at e
    cases e
    refine ⟨v, List.getElem?_set_self (by rw [← h.len]; exact hl), cv⟩
  · rw [List.getElem?_set_ne hj] at e
    obtain ⟨w, h1, h2⟩ := h.at_ j c' e
    exact ⟨w, by rw [List.getElem?_set_ne hj]; exact h1, h2⟩
variable {st : Stmt} {sts : List Stmt} {r r' : RS} {e : Expr} {ra : RE}
theorem ds_pass : DS X W (.Pass pos) rPass := PS.imp ps_pass fun D σ H h => by
  obtain ⟨A, g, m, E, hm, hc, q, e⟩ := liftS_el h
  exact e.nx g A m σ H q (.refl hm) hc
theorem ds_break : DS X W (.Break pos) rBreak := PS.imp ps_break fun D σ H h => by
  obtain ⟨A, g, m, E, hm, hc, q, e⟩ := liftS_el h
  exact e.bk g A m σ H q (.refl hm) hc
theorem ds_cont : DS X W (.Continue pos) rCont := PS.imp ps_continue fun D σ H h => by
  obtain ⟨A, g, m, E, hm, hc, q, e⟩ := liftS_el h
  exact e.ct g A m σ H q (.refl hm) hc
theorem dss_nil : DSs X W [] rPass := PSs.imp pss_nil fun D σ H h => by
  obtain ⟨A, g, m, E, hm, hc, q, e⟩ := liftS_el h
  exact e.nx g A m σ H q (.refl hm) hc
theorem dss_one (h : DS X W st r) : DSs X W [st] r := pss_one h
theorem dss_cons (h1 : DS X W st r) (h2 : DSs X W sts r') : DSs X W (st :: sts) (rSeq r r') := PSs.imp (pss_cons h1 h2) fun D σ H h => by
  obtain ⟨A, g, m, E, hm, hc, q, e⟩ := liftS_el h
  exact liftS_mk hm hc q ⟨fun g1 A1 m1 σ1 H1 q1 st1 cl1 => liftS_mk st1.mem cl1 q1 (e.step st1), e.rt, e.bk, e.ct, e.ex⟩
theorem ds_ret (h : DE X W e ra) : DS X W (.Return (some e) pos) (rRet ra) := PS.imp (ps_ret h) fun D σ H h => by
  obtain ⟨A, g, m, E, hm, hc, q, e⟩ := liftS_el h
  exact ⟨A, g, m, E.rt, E.ex, hm, hc, q, e.rt, e.ex⟩
theorem ds_retN : DS X W (.Return none pos) rRetN := PS.imp ps_retN fun D σ H h => by
  obtain ⟨A, g, m, E, hm, hc, q, e⟩ := liftS_el h
  exact e.rt _ A m _ H q (.refl hm) .non
theorem ds_expr (h : DE X W e ra) (hs : swapsWith e none pos.line X.env = pure false := by rfl) : DS X W (.Expr e pos) (rDrop ra) := PS.imp (ps_expr h hs) fun D σ H h => by
  obtain ⟨A, g, m, E, hm, hc, q, e⟩ := liftS_el h
  exact ⟨A, g, m, _, E.ex, hm, hc, q, fun c A1 m1 v H1 q1 st1 cv1 => e.nx g A1 m1 σ H1 q1 st1 (hc.step hm st1), e.ex⟩
theorem ds_if {c : Expr} {as bs : List Stmt} (h : DT X W c t) (ha : DSs X W as r) (hb : DSs X W bs r') : DS X W (.If c as bs pos) (rIfS t r r') := PS.imp (ps_if h ha hb) fun D σ H h => by
  obtain ⟨A, g, m, E, hm, hc, q, e⟩ := liftS_el h
  refine ⟨A, g, m, _, E.ex, hm, hc, q, fun c A1 m1 H1 q1 st1 => ?_, e.ex⟩
  cases c with
  | true => exact liftS_mk st1.mem (hc.step hm st1) q1 (e.step st1)
  | false => exact liftS_mk st1.mem (hc.step hm st1) q1 (e.step st1)
theorem ds_set {i : Nat} {x : Str} {p : Pos} (hN : X.N.Nodup) (he : DE X W e ra) (hi : X.N[i]? = some x := by rfl) (hx : Loc X.env.scope x := by first | exact Or.inl rfl | exact Or.inr rfl) (hs : swapsWith e (some (.Name x p)) pos.line X.env = pure false := by rfl)
    (hf : X.fn x = true ∨ X.env.scope.names.lookup x = some .local := by first | exact .inl rfl | exact .inr rfl | assumption) : DS X W (.Assign [.Name x p] e pos) (rSet i ra) := PS.imp (ps_set hN hi hx he hs hf) fun D σ H h => by
  obtain ⟨A, g, m, E, hm, hc, q, e⟩ := liftS_el h
  exact ⟨A, g, m, _, E.ex, hm, hc, q, fun c A1 m1 v H1 q1 st1 cv1 => e.nx _ A1 m1 _ H1 q1 st1 ((hc.step hm st1).put i cv1), e.ex⟩
end
end DL
/-! DL3: targets, for, comprehensions. -/
namespace DL
open PySem PySem.Spec PyProof.Rows L2
section
variable {X : Cx} {W : WX} {pos : Pos}
/-! ### targets -/
abbrev RG := Cv → G → Mem → (G → Mem → Prop) → Prop
abbrev RGs := List Dat → G → Mem → (G → Mem → Prop) → Prop
/-- only the slots in ix have changed -/
def Chg (ix : List Nat) (σ σ' : L2.St) : Prop := σ'.length = σ.length ∧ ∀ j, j ∉ ix → σ'[j]? = σ[j]?
theorem Chg.refl (ix : List Nat) (σ : L2.St) : Chg ix σ σ := ⟨rfl, fun _ _ => rfl⟩
theorem Chg.trans {ix : List Nat} {σ σ1 σ2 : L2.St} (a : Chg ix σ σ1) (b : Chg ix σ1 σ2) : Chg ix σ σ2 := ⟨b.1.trans a.1, fun j h => (b.2 j h).trans (a.2 j h)⟩
def liftG (K : PySem.W.Frag) (ix : List Nat) (r : RG) : TG := fun v σ H Q => ∃ (A : Addr → Prop) (g : G) (m : Mem) (c : Cv) (Kg : G → Mem → Prop), MemOk K A H m ∧ CellsOk K A H σ g m ∧ CvOk K A H m v c ∧ r c g m Kg ∧
  ∀ g' A' m' σ' H', Kg g' m' → Step K A m H A' m' H' → CellsOk K A' H' σ' g' m' → Chg ix σ σ' → Q σ' H'
def liftGs (K : PySem.W.Frag) (ix : List Nat) (r : RGs) : TGs := fun vs σ H Q => ∃ (A : Addr → Prop) (g : G) (m : Mem) (ds : List Dat) (Kg : G → Mem → Prop), MemOk K A H m ∧ CellsOk K A H σ g m ∧ Reps K A H vs ds ∧ r ds g m Kg ∧
  ∀ g' A' m' σ' H', Kg g' m' → Step K A m H A' m' H' → CellsOk K A' H' σ' g' m' → Chg ix σ σ' → Q σ' H'
abbrev DG (X : Cx) (ix : List Nat) (tg : Expr) (r : RG) : Prop := PG X tg (liftG X.K ix r)
abbrev DGs (X : Cx) (ix : List Nat) (tg : List Expr) (r : RGs) : Prop := PGs X tg (liftGs X.K ix r)
theorem PG.imp {tg : Expr} {t t' : TG} (h : PG X tg t) (i : ∀ v σ H Q, t' v σ H Q → t v σ H Q) : PG X tg t' := ⟨fun pins s σ H v u Q I r q => h.run pins s σ H v u Q I r (i v σ H Q q)⟩
theorem PGs.imp {tg : List Expr} {t t' : TGs} (h : PGs X tg t) (i : ∀ v σ H Q, t' v σ H Q → t v σ H Q) : PGs X tg t' := ⟨fun pins s σ H v u Q I r q => h.run pins s σ H v u Q I r (i v σ H Q q)⟩
def rgName (i : Nat) : RG := fun c g m K => K (put g i (some c)) m
def rgNil : RGs := fun ds g m K => match ds with
  | [] => K g m
  | _ => False
def rgCons (r : RG) (rs : RGs) : RGs := fun ds g m K => match ds with
  | d :: ds => r (.p d) g m fun g1 m1 => rs ds g1 m1 K
  | [] => False
def rgTup (n : Nat) (rs : RGs) : RG := fun c g m K => match view m c with
  | .tup ds => ds.length = n ∧ rs ds g m K
  | .lst ds => ds.length = n ∧ rs ds g m K
  | _ => False
theorem dg_name {i : Nat} {x : Str} (ix : List Nat) (hN : X.N.Nodup) (hi : X.N[i]? = some x := by rfl) (hm : i ∈ ix := by decide) (hx : Loc X.env.scope x := by first | exact Or.inl rfl | exact Or.inr rfl)
    (hf : X.fn x = true ∨ X.env.scope.names.lookup x = some .local := by first | exact .inl rfl | exact .inr rfl | assumption) : DG X ix (.Name x pos) (rgName i) :=
  PG.imp (pg_name hN hi hx hf) fun v σ H Q ⟨A, g, m, c, Kg, hm', hc, cv, q, k⟩ => k _ A m _ H q (.refl hm') (hc.put i cv) ⟨by simp, fun j hj => List.getElem?_set_ne fun e => hj (by rw [← e]; exact hm)⟩
theorem dgs_nil {ix : List Nat} : DGs X ix [] rgNil := PGs.imp pgs_nil fun v σ H Q ⟨A, g, m, ds, Kg, hm', hc, r, q, k⟩ => by
  cases r with
  | nil => exact ⟨rfl, k _ A m _ H q (.refl hm') hc (.refl _ _)⟩
  | cons _ _ => exact q.elim
theorem dgs_cons {ix : List Nat} {e : Expr} {es : List Expr} {r : RG} {rs : RGs} (h1 : DG X ix e r) (h2 : DGs X ix es rs)
    (hs : (assignEach (e :: es) X.env).map (·.2) = assign e X.env :: (assignEach es X.env).map (·.2) := by rfl) : DGs X ix (e :: es) (rgCons r rs) := PGs.imp (pgs_cons h1 h2 hs) fun v σ H Q ⟨A, g, m, ds, Kg, hm', hc, rr, q, k⟩ => by
  cases rr with
  | nil => exact q.elim
  | cons r1 r2 =>
    refine ⟨_, _, rfl, A, g, m, .p _, _, hm', hc, r1, q, fun g1 A1 m1 σ1 H1 q1 st1 cl1 ch1 => ?_⟩
    exact ⟨A1, g1, m1, _, Kg, st1.mem, cl1, r2.step hm' st1, q1, fun g2 A2 m2 σ2 H2 q2 st2 cl2 ch2 => k g2 A2 m2 σ2 H2 q2 (st1.trans st2) cl2 (ch1.trans ch2)⟩
theorem PG.or {tg : Expr} {t t' : TG} (h : PG X tg t) (h' : PG X tg t') : PG X tg (fun v σ H Q => t v σ H Q ∨ t' v σ H Q) :=
  ⟨fun pins s σ H v u Q I r q => q.elim (fun q => h.run pins s σ H v u Q I r q) fun q => h'.run pins s σ H v u Q I r q⟩
theorem dg_tup {ix : List Nat} {es : List Expr} {k : Nat} {rs : RGs} {n : Nat} (hc : X.calm = true) (h : DGs X ix es rs)
    (hn : (assignEach es X.env).length = n := by rfl) (hst : (assignEach es X.env).findIdx? (·.1) = none := by rfl) : DG X ix (.Tuple es k pos) (rgTup n rs) := by
  refine PG.imp (PG.or (pg_tup hc h hn hst) (pg_lst hc h hn hst)) fun v σ H Q ⟨A, g, m, c, Kg, hm', hc, cv, q, k⟩ => ?_
  have w := cv.w hm'
  unfold rgTup at q
  cases e : view m c with
  | tup ds =>
    rw [e] at q w
    obtain ⟨a, vs, rfl, ht, r⟩ := w.tup
    exact .inl ⟨a, vs, rfl, ht, r.length.trans q.1, A, g, m, ds, Kg, hm', hc, r, q.2, k⟩
  | lst ds =>
    rw [e] at q w
    obtain ⟨a, vs, rfl, ht, r⟩ := w.seq
    exact .inr ⟨a, vs, rfl, ht, r.length.trans q.1, A, g, m, ds, Kg, hm', hc, r, q.2, k⟩
  | _ => rw [e] at q; exact q.elim
/-- target = e -/
def rAsg (ra : RE) (rg : RG) : RS := fun E g m => ra g m (fun c m1 => rg c g m1 E.nx) E.ex
theorem ds_asg {ix : List Nat} {tg e : Expr} {ra : RE} {rg : RG} (he : DE X W e ra) (hg : DG X ix tg rg) (hs : swapsWithSole [tg] e pos.line X.env = pure false := by rfl) (hw : swappedStores [tg] e X.env = pure none := by rfl)
    (h1 : (assignEach [tg] X.env).map (·.2) = [assign tg X.env] := by rfl) : DS X W (.Assign [tg] e pos) (rAsg ra rg) := PS.imp (ps_asg he hg hs hw h1) fun D σ H h => by
  obtain ⟨A, g, m, E, hm, hc, q, e⟩ := liftS_el h
  refine ⟨A, g, m, _, E.ex, hm, hc, q, fun c A1 m1 v H1 q1 st1 cv1 => ?_, e.ex⟩
  exact ⟨A1, g, m1, c, E.nx, st1.mem, hc.step hm st1, cv1, q1, fun g2 A2 m2 σ2 H2 q2 st2 cl2 _ => e.nx g2 A2 m2 σ2 H2 q2 (st1.trans st2) cl2⟩
/-! ### what is walked -/
abbrev RI := G → Mem → (List Dat → (Mem → Prop) → Mem → Prop) → XC → Prop
/-- J gives the items ds, while st holds of what may change -/
structure WalkOk (K : PySem.W.Frag) (J : It) (A : Addr → Prop) (m : Mem) (H : Hp) (st : Mem → Prop) (ds : List Dat) : Prop where
  stop : ∀ A' m' H', Go (Live m) A A' H H' → MemOk K A' H' m' → st m' → J.stop ds.length H'
  go : ∀ i d A' m' H', Go (Live m) A A' H H' → MemOk K A' H' m' → st m' → ds[i]? = some d → J.go i H' ∧ ∀ x H'', J.yld i H' x H'' → SameH H' H'' ∧ Rep K A' H'' x d
def liftI (K : PySem.W.Frag) (W : WX) (r : RI) : TI := fun σ H R => ∃ (A : Addr → Prop) (g : G) (m : Mem) (Kc : List Dat → (Mem → Prop) → Mem → Prop) (KE : XC), MemOk K A H m ∧ CellsOk K A H σ g m ∧ r g m Kc KE ∧
  (∀ ds st A' m' J H', Kc ds st m' → st m' → Step K A m H A' m' H' → WalkOk K J A' m' H' st ds → R J H') ∧ ExTo K W A m H KE
abbrev DI (X : Cx) (W : WX) (tg iter : Expr) (r : RI) : Prop := PI X tg iter (liftI X.K W r)
theorem PI.imp {tg it : Expr} {t t' : TI} (h : PI X tg it t) (i : ∀ σ H Q, t' σ H Q → t σ H Q) : PI X tg it t' := ⟨fun pins s σ H R I q => h.run pins s σ H R I (i σ H R q)⟩
theorem PI.or {tg it : Expr} {t t' : TI} (h : PI X tg it t) (h' : PI X tg it t') : PI X tg it (fun σ H R => t σ H R ∨ t' σ H R) :=
  ⟨fun pins s σ H R I q => q.elim (fun q => h.run pins s σ H R I q) fun q => h'.run pins s σ H R I q⟩
def signs (x : Str) : List Dat := x.cps.toList.map fun c => .str ⟨#[c]⟩
def rIt (ra : RE) : RI := fun g m K KE => ra g m (fun c m1 => match c with
  | .p (.lst ds) => K ds (fun _ => True) m1
  | .p (.tup ds) => K ds (fun _ => True) m1
  | .p (.str x) => K (signs x) (fun _ => True) m1
  | .l n i => match mget m1 n i with
    | some (a, .lst ds) => K ds (fun m => mget m n i = some (a, .lst ds)) m1
    | _ => False
  | _ => False) KE
theorem signs_at {x : Str} {i : Nat} {d : Dat} (h : (signs x)[i]? = some d) : ∃ c, x.cps[i]? = some c ∧ d = .str ⟨#[c]⟩ := by
  unfold signs at h
  rw [List.getElem?_map] at h
  cases e : x.cps.toList[i]? with
  | none => rw [e] at h; cases h
  | some c =>
    rw [e] at h
    refine ⟨c, ?_, (Option.some.inj h).symm⟩
    rw [← Array.getElem?_toList]; exact e
theorem walk_lst {K : PySem.W.Frag} {A : Addr → Prop} {m : Mem} {H : Hp} {a : Addr} {ds : List Dat} {st : Mem → Prop} (hm : MemOk K A H m)
    (h : ∀ A' m' H', Go (Live m) A A' H H' → MemOk K A' H' m' → st m' → ∃ vs, SqL K H' a vs ∧ Reps K A' H' vs ds) : WalkOk K (Itl K a) A m H st ds := by
  refine ⟨fun A' m' H' g hm' s => ?_, fun i d A' m' H' g hm' s hd => ?_⟩
  · obtain ⟨vs, h1, h2⟩ := h A' m' H' g hm' s
    exact ⟨vs, h1, Nat.le_of_eq h2.length⟩
  · obtain ⟨vs, h1, h2⟩ := h A' m' H' g hm' s
    obtain ⟨v, h3, h4⟩ := h2.get hd
    refine ⟨⟨vs, v, h1, h3⟩, fun x H'' y => ?_⟩
    obtain ⟨e, y⟩ := y
    subst e
    have := y vs h1
    rw [h3] at this; cases this
    exact ⟨fun _ _ e => e, h4⟩
theorem walk_tpl {K : PySem.W.Frag} {A : Addr → Prop} {m : Mem} {H : Hp} {a : Addr} {ds : List Dat} {st : Mem → Prop}
    (h : ∀ A' m' H', Go (Live m) A A' H H' → MemOk K A' H' m' → st m' → ∃ vs, SqT K H' a vs ∧ Reps K A' H' vs ds) : WalkOk K (Itt K a) A m H st ds := by
  refine ⟨fun A' m' H' g hm' s => ?_, fun i d A' m' H' g hm' s hd => ?_⟩
  · obtain ⟨vs, h1, h2⟩ := h A' m' H' g hm' s
    exact ⟨vs, h1, Nat.le_of_eq h2.length⟩
  · obtain ⟨vs, h1, h2⟩ := h A' m' H' g hm' s
    obtain ⟨v, h3, h4⟩ := h2.get hd
    refine ⟨⟨vs, v, h1, h3⟩, fun x H'' y => ?_⟩
    obtain ⟨e, y⟩ := y
    subst e
    have := y vs h1
    rw [h3] at this; cases this
    exact ⟨fun _ _ e => e, h4⟩
theorem walk_sgn {K : PySem.W.Frag} {A : Addr → Prop} {m : Mem} {H : Hp} {x : Str} {st : Mem → Prop} : WalkOk K (Its x) A m H st (signs x) := by
  refine ⟨fun A' m' H' g hm' s => ?_, fun i d A' m' H' g hm' s hd => ?_⟩
  · show x.cps.size ≤ _
    unfold signs; simp
  · obtain ⟨c, h1, rfl⟩ := signs_at hd
    refine ⟨(Array.getElem?_eq_some_iff.mp h1).1, fun y H'' q => ?_⟩
    obtain ⟨e, c', h2, rfl⟩ := q
    subst e
    rw [h1] at h2; cases h2
    exact ⟨fun _ _ e => e, .str _⟩
theorem Rep.goL {K : PySem.W.Frag} {A A' : Addr → Prop} {m : Mem} {H H' : Hp} (hm : MemOk K A H m) (g : Go (Live m) A A' H H') {v : V} {d : Dat} (r : Rep K A H v d) : Rep K A' H' v d := r.go g hm.live
section
variable {pins : List (Addr × Obj)} {s : Shared} {σ : L2.St} {H : Hp} {R : It → Hp → Prop} {tg : Expr} {a : Addr} {xs : List V}
theorem iterL (I : Inv X pins σ H s) (h : SqL X.K H a xs) (q : R (Itl X.K a) H) : wpAny (model X.prog X.w) X.A (pyIter (.ref a)) (PIE X pins σ tg R) X.xe s :=
  let ⟨_, _, p, _⟩ := I.list h
  wpAny_pyIter_list p.isList (pi_one (tk := s.toks) I _ (turn_list a _) ⟨_, Heap.get?_push_size _ rfl, rfl, rfl⟩ q)
theorem iterT (I : Inv X pins σ H s) (h : SqT X.K H a xs) (q : R (Itt X.K a) H) : wpAny (model X.prog X.w) X.A (pyIter (.ref a)) (PIE X pins σ tg R) X.xe s :=
  let ⟨_, _, p, _⟩ := I.tuple h
  wpAny_pyIter_tuple p (pi_one (tk := s.toks) I _ (turn_tuple a _) ⟨_, Heap.get?_push_size _ rfl, rfl, rfl⟩ q)
theorem iterS {x : Str} {t : Tok} (I : Inv X pins σ H s) (q : R (Its x) H) : wpAny (model X.prog X.w) X.A (pyIter (.str x t)) (PIE X pins σ tg R) X.xe s := by
  by_cases ha : x.cps.all (· < 128) = true
  · exact wpAny_pyIter_ascii ha (pi_one (tk := s.toks) I _ (turn_str _ x t _ (.inl rfl)) ⟨_, Heap.get?_push_size _ rfl, rfl, rfl⟩ q)
  · exact wpAny_pyIter_wide (by simpa using ha) (pi_one (tk := s.toks) I _ (turn_str _ x t _ (.inr rfl)) ⟨_, Heap.get?_push_size _ rfl, rfl, rfl⟩ q)
end
/-- the walk over a pure value -/
def itD : Dat → (List Dat → Prop) → Prop
  | .lst ds, K => K ds
  | .tup ds, K => K ds
  | .str x, K => K (signs x)
  | _, _ => False
theorem iter_pure {tg : Expr} {pins : List (Addr × Obj)} {s : Shared} {σ : L2.St} {H : Hp} {R : It → Hp → Prop} {A : Addr → Prop} {m : Mem} {v : V} {u : Value} {d : Dat} {KK : List Dat → Prop} (I : Inv X pins σ H s) (hm : MemOk X.K A H m) (rv : RelV v u) (r : Rep X.K A H v d) (q : itD d KK)
    (k : ∀ ds J, KK ds → WalkOk X.K J A m H (fun _ => True) ds → R J H) : wpAny (model X.prog X.w) X.A (pyIter u) (PIE X pins σ tg R) X.xe s := by
  cases r with
  | lst h n rr =>
    cases rv
    refine iterL I (.inl (.inl h)) (k _ _ q (walk_lst hm fun A' m' H' g _ _ => ?_))
    exact ⟨_, .inl (.inl (g.keep _ _ h fun z => n (hm.live _ z))), rr.go g hm.live⟩
  | tup h n rr =>
    cases rv
    refine iterT I (.inl h) (k _ _ q (walk_tpl fun A' m' H' g _ _ => ?_))
    exact ⟨_, .inl (g.rd hm.live h n).1, rr.go g hm.live⟩
  | tupK h rr =>
    cases rv
    exact iterT I (.inr h) (k _ _ q (walk_tpl fun A' m' H' g _ _ => ⟨_, .inr h, rr.go g hm.live⟩))
  | str x =>
    obtain ⟨t, rfl⟩ := rv
    exact iterS I (k _ _ q walk_sgn)
  | _ => exact q.elim
theorem di_val {tg iter : Expr} {ra : RE} (h : DE X W iter ra) : DI X W tg iter (rIt ra) := by
  refine ⟨fun pins s σ H R I ⟨A, g, m, Kc, KE, hm, hc, q, k, ex⟩ => ?_⟩
  refine thn (DE.go h I hm hc q ex) fun u s1 ⟨v, H1, A1, m1, c, I1, rv, st1, cv, q1⟩ => ?_
  cases c with
  | p d =>
    have q2 : itD d fun ds => Kc ds (fun _ => True) m1 := by
      cases d <;> first | exact q1 | exact q1.elim
    exact iter_pure I1 st1.mem rv cv q2 fun ds J kk w => k ds _ A1 m1 J H1 kk trivial st1 w
  | l n i =>
    obtain ⟨a, lo, h1, rfl⟩ := cv
    cases rv
    have q2 : match mget m1 n i with
      | some (a, .lst ds) => Kc ds (fun m => mget m n i = some (a, .lst ds)) m1
      | _ => False := q1
    rw [h1] at q2
    cases lo with
    | lst ds =>
      obtain ⟨_, vs, h2, r2⟩ := st1.mem.ok a _ (mget_mem h1)
      refine iterL I1 (.inl (.inl h2)) (k ds _ A1 m1 _ H1 q2 h1 st1 (walk_lst st1.mem fun A' m' H' g hm' s => ?_))
      obtain ⟨_, vs', h3, r3⟩ := hm'.ok a _ (mget_mem s)
      exact ⟨vs', .inl (.inl h3), r3⟩
    | _ => exact q2.elim
end
end DL
/-! DL4: for loops, comprehensions, while. -/
namespace DL
open PySem PySem.Spec PyProof.Rows L2
section
variable {X : Cx} {W : WX} {pos : Pos}
/-! ### for -/
def forW (rg : RG) (rb : RS) (E : DEnds) (st : Mem → Prop) : List Dat → G → Mem → Prop
  | [], g, m => E.nx g m
  | d :: ds, g, m => rg (.p d) g m fun g1 m1 => rb { E with nx := fun g2 m2 => st m2 ∧ forW rg rb E st ds g2 m2, ct := fun g2 m2 => st m2 ∧ forW rg rb E st ds g2 m2, bk := E.nx } g1 m1
def rFor (ri : RI) (rg : RG) (rb : RS) : RS := fun E g m => ri g m (fun ds st m1 => forW rg rb E st ds g m1) E.ex
theorem Go.trans {L L' A A' A'' : Addr → Prop} {H H' H'' : Hp} (s : Go L A A' H H') (t : Go L' A' A'' H' H'') (h : ∀ b, L' b → L b ∨ H b = none) : Go L A A'' H H'' := by
  refine ⟨fun b o e n => t.keep b o (s.keep b o e n) fun z => ?_, fun b e => s.mono b (t.mono b e), fun b e => t.up b (s.up b e), fun b e => ?_⟩
  · rcases h b z with z | z
    · exact n z
    · rw [e] at z; cases z
  · rcases t.new b e with e | e
    · exact s.new b e
    · exact .inr (s.mono b e)
theorem ds_for {ix : List Nat} {tg iter : Expr} {body : List Stmt} {ri : RI} {rg : RG} {rb : RS} (hp : PassesOwn (model X.prog X.w) X.A X.env X.xe) (hc : X.calm = true) (hi : DI X W tg iter ri) (hg : DG X ix tg rg) (hb : DSs X W body rb)
    (hs : ∀ x, foldedSetIterable iter X.env x = pure x := by intro _; rfl) : DS X W (.For tg iter body [] pos) (rFor ri rg rb) := by
  refine PS.imp (ps_for hp hc hi hg hb hs) fun D σ H h => ?_
  obtain ⟨A, g, m, E, hm, hcl, q, e⟩ := liftS_el h
  refine ⟨A, g, m, _, E.ex, hm, hcl, q, fun ds st A1 m1 J H1 q1 s1 st1 w => ?_, e.ex⟩
  refine ⟨fun i n σ' H' => n = ds.length - i ∧ i ≤ ds.length ∧ ∃ A' g' m', Step X.K A1 m1 H1 A' m' H' ∧ CellsOk X.K A' H' σ' g' m' ∧ st m' ∧ forW rg rb E st (ds.drop i) g' m',
    ⟨ds.length, by simp, Nat.zero_le _, A1, g, m1, .refl st1.mem, hcl.step hm st1, s1, q1⟩, ?_⟩
  rintro i n σ' H' ⟨rfl, hi, A', g', m', st2, cl2, s2, q2⟩
  by_cases hlt : i < ds.length
  · obtain ⟨d, hd⟩ : ∃ d, ds[i]? = some d := ⟨ds[i], by simp [hlt]⟩
    have hdr : ds.drop i = d :: ds.drop (i + 1) := by
      rw [List.drop_eq_getElem_cons hlt]
      have : ds[i] = d := by simpa [hlt] using hd
      rw [this]
    rw [hdr] at q2
    obtain ⟨hgo, hy⟩ := w.go i d A' m' H' st2.go st2.mem s2 hd
    refine .inr ⟨hgo, fun σ3 H3 => i + 1 ≤ ds.length ∧ ∃ A3 g3 m3, Step X.K A1 m1 H1 A3 m3 H3 ∧ CellsOk X.K A3 H3 σ3 g3 m3 ∧ st m3 ∧ forW rg rb E st (ds.drop (i + 1)) g3 m3, fun σ3 H3 h3 => ⟨ds.length - (i + 1), by omega, rfl, h3⟩, fun x H3 y => ?_⟩
    obtain ⟨sm, rp⟩ := hy x H3 y
    have st3 : Step X.K A' m' H' A' m' H3 := .same st2.mem sm
    refine ⟨A', g', m', .p d, _, st3.mem, cl2.step st2.mem st3, rp, q2, fun g4 A4 m4 σ4 H4 q4 st4 cl4 _ => ?_⟩
    have st24 := (st2.trans st3).trans st4
    refine liftS_mk st4.mem cl4 q4 ⟨?_, ?_, ?_, ?_, ?_⟩
    · exact fun g5 A5 m5 σ5 H5 q5 st5 cl5 => ⟨hlt, A5, g5, m5, st24.trans st5, cl5, q5.1, q5.2⟩
    · exact fun c A5 m5 v H5 q5 st5 cv5 => e.rt c A5 m5 v H5 q5 ((st1.trans st24).trans st5) cv5
    · exact fun g5 A5 m5 σ5 H5 q5 st5 cl5 => e.nx g5 A5 m5 σ5 H5 q5 ((st1.trans st24).trans st5) cl5
    · exact fun g5 A5 m5 σ5 H5 q5 st5 cl5 => ⟨hlt, A5, g5, m5, st24.trans st5, cl5, q5.1, q5.2⟩
    · exact e.ex.step (st1.trans st24)
  · have ei : i = ds.length := by omega
    subst ei
    have hdr : ds.drop ds.length = [] := List.drop_length
    rw [hdr] at q2
    exact .inl ⟨w.stop A' m' H' st2.go st2.mem s2, e.nx g' A' m' σ' H' q2 (st1.trans st2) cl2⟩
/-! ### while: by a word and a measure -/
def rWhile (t : RT) (rb : RS) : RS := fun E g m => ∃ Wd : Nat → G → Mem → Prop, (∃ n, Wd n g m) ∧ ∀ n g m, Wd n g m →
  t g m (fun b m1 => if b = true then rb { E with nx := fun g2 m2 => ∃ n', n' < n ∧ Wd n' g2 m2, ct := fun g2 m2 => ∃ n', n' < n ∧ Wd n' g2 m2, bk := E.nx } g m1 else E.nx g m1) E.ex
theorem ds_while {c : Expr} {body : List Stmt} {t : RT} {rb : RS} (hp : PassesOwn (model X.prog X.w) X.A X.env X.xe) (hc : DT X W c t) (hb : DSs X W body rb) : DS X W (.While c body [] pos) (rWhile t rb) := by
  refine PS.imp (ps_while hp hc hb) fun D σ H h => ?_
  obtain ⟨A, g, m, E, hm, hcl, ⟨Wd, ⟨n0, w0⟩, q⟩, e⟩ := liftS_el h
  refine ⟨fun n σ' H' => ∃ A' g' m', Step X.K A m H A' m' H' ∧ CellsOk X.K A' H' σ' g' m' ∧ Wd n g' m', ⟨n0, A, g, m, .refl hm, hcl, w0⟩, ?_⟩
  rintro n σ' H' ⟨A', g', m', st1, cl1, w1⟩
  refine ⟨A', g', m', _, E.ex, st1.mem, cl1, q n g' m' w1, fun b A2 m2 H2 q2 st2 => ?_, e.ex.step st1⟩
  cases b with
  | true =>
    refine ⟨fun σ3 H3 => ∃ n', n' < n ∧ ∃ A3 g3 m3, Step X.K A m H A3 m3 H3 ∧ CellsOk X.K A3 H3 σ3 g3 m3 ∧ Wd n' g3 m3, fun σ3 H3 h3 => h3, ?_⟩
    have st12 := st1.trans st2
    refine liftS_mk st2.mem (cl1.step st1.mem st2) q2 ⟨?_, ?_, ?_, ?_, ?_⟩
    · rintro g5 A5 m5 σ5 H5 ⟨n', hn, w5⟩ st5 cl5; exact ⟨n', hn, A5, g5, m5, st12.trans st5, cl5, w5⟩
    · exact fun c A5 m5 v H5 q5 st5 cv5 => e.rt c A5 m5 v H5 q5 (st12.trans st5) cv5
    · exact fun g5 A5 m5 σ5 H5 q5 st5 cl5 => e.nx g5 A5 m5 σ5 H5 q5 (st12.trans st5) cl5
    · rintro g5 A5 m5 σ5 H5 ⟨n', hn, w5⟩ st5 cl5; exact ⟨n', hn, A5, g5, m5, st12.trans st5, cl5, w5⟩
    · exact e.ex.step st12
  | false => exact e.nx g' A2 m2 σ' H2 q2 (st1.trans st2) (cl1.step st1.mem st2)
/-! ### comprehensions -/
/-- nothing is raised within -/
abbrev W0 : WX := fun _ _ _ _ => False
abbrev KE0 : XC := fun _ _ _ => False
theorem exTo0 {K : PySem.W.Frag} {A : Addr → Prop} {m : Mem} {H : Hp} : ExTo K W0 A m H KE0 := fun _ _ _ _ _ _ _ _ h _ _ _ => h.elim
def wipeG (g : G) : List Nat → G
  | [] => g
  | v :: vs => put (wipeG g vs) v none
theorem wipe_get {σ : L2.St} {i : Nat} {vs : List Nat} (h : i ∉ vs) : (wipe σ vs)[i]? = σ[i]? := wipe_out h
theorem wipeG_get : ∀ {g : G} {i : Nat} {vs : List Nat} {c : Cv}, (wipeG g vs)[i]? = some (some c) → g[i]? = some (some c) ∧ i ∉ vs
  | g, i, [], c, h => ⟨h, by simp⟩
  | g, i, v :: vs, c, h => by
    unfold wipeG at h
    rw [put_eq] at h
    by_cases hi : v = i
    · subst hi
      by_cases hv : v < (wipeG g vs).length
      · rw [List.getElem?_set_self hv] at h; cases h
      · rw [List.getElem?_eq_none (by simpa using hv)] at h; cases h
    · rw [List.getElem?_set_ne hi] at h
      obtain ⟨h1, h2⟩ := wipeG_get h
      exact ⟨h1, by simp only [List.mem_cons, not_or]; exact ⟨fun e => hi e.symm, h2⟩⟩
theorem wipeG_length (g : G) : ∀ vs : List Nat, (wipeG g vs).length = g.length
  | [] => rfl
  | v :: vs => by unfold wipeG; rw [put_eq, List.length_set, wipeG_length g vs]
theorem CellsOk.wipe {K : PySem.W.Frag} {A : Addr → Prop} {H : Hp} {σ : L2.St} {g : G} {m : Mem} (h : CellsOk K A H σ g m) (vs : List Nat) : CellsOk K A H (L2.wipe σ vs) (wipeG g vs) m := by
  refine ⟨by rw [wipeG_length, wipe_length]; exact h.len, fun i c e => ?_⟩
  obtain ⟨h1, h2⟩ := wipeG_get e
  obtain ⟨v, h3, h4⟩ := h.at_ i c h1
  exact ⟨v, by rw [wipe_get h2]; exact h3, h4⟩
theorem wipe_eq_of : ∀ {vs : List Nat} {σ σ' : L2.St}, σ'.length = σ.length → (∀ j, j ∉ vs → σ'[j]? = σ[j]?) → L2.wipe σ' vs = L2.wipe σ vs := fun {vs σ σ'} hl h => by
  apply List.ext_getElem?
  intro i
  by_cases hi : i ∈ vs
  · have go : ∀ (τ : L2.St) (ws : List Nat), i ∈ ws → (L2.wipe τ ws)[i]? = if i < τ.length then some none else none := fun τ ws => by
      induction ws with
      | nil => intro h; cases h
      | cons w ws ih =>
        intro h
        unfold L2.wipe
        by_cases e : w = i
        · subst e
          by_cases hw : w < τ.length
          · rw [List.getElem?_set_self (by rw [wipe_length]; exact hw), if_pos hw]
          · rw [List.getElem?_eq_none (by rw [List.length_set, wipe_length]; omega), if_neg hw]
        · rw [List.getElem?_set_ne e]
          exact ih ((List.mem_cons.mp h).resolve_left fun z => e z.symm)
    rw [go σ' vs hi, go σ vs hi, hl]
  · rw [wipe_out hi, wipe_out hi]; exact h i hi
theorem wipe_idem {vs : List Nat} {σ σ2 : L2.St} {ix : List Nat} (hs : ∀ i ∈ ix, i ∈ vs) (h : Chg ix (L2.wipe σ vs) σ2) : L2.wipe σ2 vs = L2.wipe σ vs := by
  refine wipe_eq_of (by rw [h.1, wipe_length]) fun j hj => ?_
  rw [h.2 j fun z => hj (hs j z), wipe_out hj]
def lcW (rg : RG) (rt : RT) (re : RE) (st : Mem → Prop) (gw : G) (K : List Dat → Mem → Prop) : List Dat → List Dat → Mem → Prop
  | [], acc, m => K acc m
  | d :: ds, acc, m => rg (.p d) gw m fun g1 m1 => rt g1 m1 (fun b m2 => if b = true then re g1 m2 (fun c m3 => match c with
      | .p y => acc.length < sizeLine ∧ st m3 ∧ lcW rg rt re st gw K ds (acc ++ [y]) m3
      | .l _ _ => False) KE0 else st m2 ∧ lcW rg rt re st gw K ds acc m2) KE0
def rLcK (ri : RI) (rg : RG) (rt : RT) (re : RE) (vs : List Nat) (fin : List Dat → Mem → (Cv → Mem → Prop) → Prop) : RE := fun g m K KE =>
  ri g m (fun ds st m1 => lcW rg rt re st (wipeG g vs) (fun acc m2 => fin acc m2 K) ds [] m1) KE
/-- the list as plain data -/
def rLc (ri : RI) (rg : RG) (rt : RT) (re : RE) (vs : List Nat) : RE := rLcK ri rg rt re vs fun acc m K => K (.p (.lst acc)) m
/-- the list as one that may change -/
def rLcN (ri : RI) (rg : RG) (rt : RT) (re : RE) (vs : List Nat) : RE := rLcK ri rg rt re vs fun acc m K => newLst acc m K
abbrev DTs (X : Cx) (W : WX) (ifs : List Expr) (r : RT) : Prop := PTs X ifs (liftT X.K W r)
def rYes : RT := fun _ m K _ => K true m
theorem PTs.imp {ifs : List Expr} {t t' : TT} (h : PTs X ifs t) (i : ∀ σ H Q, t' σ H Q → t σ H Q) : PTs X ifs t' := ⟨fun pins s σ H Q I q => h.run pins s σ H Q I (i σ H Q q)⟩
theorem dts_nil : DTs X W [] rYes := PTs.imp pts_nil fun σ H Q ⟨A, g, m, Kc, KE, hm, hc, q, k, ex⟩ => k true A m H q (.refl hm)
theorem dts_one {c : Expr} {t : RT} (h : DT X W c t) : DTs X W [c] t := pts_one h
/-- the comprehension's word: the list under way at D is hidden; all else goes on -/
structure LcI (K : PySem.W.Frag) (A1 : Addr → Prop) (m1 : Mem) (H1 : Hp) (D : Addr) (A' : Addr → Prop) (m' : Mem) (H' : Hp) (acc : List Dat) : Prop where
  go : Go (fun b => Live m1 b ∨ b = D) (fun b => A1 b ∨ b = D) A' (upd H1 D (.lst [])) H'
  pre : Paired (FrGo fun b => H1 b = none ∧ b ≠ D) m1 m'
  mem : MemOk K A' H' m'
  own : A' D
  lst : ∃ vs, H' D = some (.lst vs) ∧ Reps K A' H' vs acc
theorem LcI.notD {K : PySem.W.Frag} {A1 : Addr → Prop} {m1 : Mem} {H1 : Hp} {D : Addr} {A' : Addr → Prop} {m' : Mem} {H' : Hp} {acc : List Dat} (h : LcI K A1 m1 H1 D A' m' H' acc) (hm : MemOk K A1 H1 m1) (hD : H1 D = none) : ∀ lo, (D, lo) ∉ m'.flatten := by
  intro lo hmem
  rcases pre_back h.pre hmem with ⟨lo', h1, h2⟩ | h1
  · obtain ⟨o, q⟩ := hm.some h1
    rw [hD] at q; cases q
  · exact h1.2 rfl
theorem LcI.fin {K : PySem.W.Frag} {A1 : Addr → Prop} {m1 : Mem} {H1 : Hp} {D : Addr} {A' : Addr → Prop} {m' : Mem} {H' : Hp} {acc : List Dat} (h : LcI K A1 m1 H1 D A' m' H' acc) (hm : MemOk K A1 H1 m1) (hD : H1 D = none) :
    Step K A1 m1 H1 (fun b => A' b ∧ b ≠ D) m' H' := by
  have ne1 : ∀ b o, H1 b = some o → b ≠ D := fun b o e z => by rw [z, hD] at e; cases e
  refine ⟨⟨fun b o e n => h.go.keep b o (by rw [upd_ne (ne1 b o e)]; exact e) fun z => z.elim n (ne1 b o e), fun b e => ?_, fun b e => ⟨h.go.up b (.inl e), ?_⟩, fun b e => ?_⟩, ?_, ?_⟩
  · have := h.go.mono b e
    by_cases hb : b = D
    · rw [hb]; exact hD
    · rw [upd_ne hb] at this; exact this
  · obtain ⟨o, q⟩ := hm.al b e
    exact ne1 b o q
  · rcases h.go.new b e.1 with z | z
    · exact z.elim .inl fun z => absurd z e.2
    · rw [upd_ne e.2] at z; exact .inr z
  · exact paired_imp (fun f f' x => x.imp fun b hb => hb.1) h.pre
  · refine ⟨fun a lo hmem => ?_, h.mem.nd, fun b hb => h.mem.al b hb.1⟩
    have nd : a ≠ D := fun z => h.notD hm hD lo (z ▸ hmem)
    have w := h.mem.ok a lo hmem
    cases lo with
    | lst ds => obtain ⟨w1, vs, w2, w3⟩ := w; exact ⟨⟨w1, nd⟩, vs, w2, w3.less fun _ z => z.1⟩
    | dic ds => obtain ⟨w1, vs, w2, w3⟩ := w; exact ⟨⟨w1, nd⟩, vs, w2, w3.less fun _ z => z.1⟩
    | ins C ds => obtain ⟨w1, dx, vs, w2, w3⟩ := w; exact ⟨⟨w1, nd⟩, dx, vs, w2, w3.less fun _ z => z.1⟩
    | gone => exact w
theorem LcI.step {K : PySem.W.Frag} {A1 : Addr → Prop} {m1 : Mem} {H1 : Hp} {D : Addr} {A' A2 : Addr → Prop} {m' m2 : Mem} {H' H2 : Hp} {acc : List Dat} (h : LcI K A1 m1 H1 D A' m' H' acc) (hm : MemOk K A1 H1 m1) (hD : H1 D = none) (s : Step K A' m' H' A2 m2 H2) :
    LcI K A1 m1 H1 D A2 m2 H2 acc := by
  have lb : ∀ b, Live m' b → (Live m1 b ∨ b = D) ∨ upd H1 D (.lst []) b = none := fun b hb => by
    obtain ⟨lo, hmem, hn⟩ := hb
    rcases pre_back h.pre hmem with ⟨lo', h1, h2⟩ | h1
    · exact .inl (.inl ⟨lo', h1, fun z => hn (h2 z)⟩)
    · exact .inr (by rw [upd_ne h1.2]; exact h1.1)
  refine ⟨h.go.trans s.go lb, ?_, s.mem, s.go.up _ h.own, ?_⟩
  · refine paired_trans (fun x y z a b => a.trans b (fun _ h => h) fun b z => ?_) h.pre s.pre
    have z2 := h.go.mono _ z
    by_cases hx2 : b = D
    · rw [hx2, upd_same] at z2; cases z2
    · rw [upd_ne hx2] at z2; exact ⟨z2, hx2⟩
  · obtain ⟨vs, h1, h2⟩ := h.lst
    exact ⟨vs, s.go.keep _ _ h1 fun ⟨lo, z, _⟩ => h.notD hm hD lo z, h2.step h.mem s⟩
theorem LcI.app {K : PySem.W.Frag} {A1 : Addr → Prop} {m1 : Mem} {H1 : Hp} {D : Addr} {A' : Addr → Prop} {m' : Mem} {H' : Hp} {acc : List Dat} (h : LcI K A1 m1 H1 D A' m' H' acc) (hm : MemOk K A1 H1 m1) (hD : H1 D = none) {y : V} {d : Dat} (r : Rep K A' H' y d) {vs : List V} (hv : H' D = some (.lst vs)) :
    LcI K A1 m1 H1 D A' m' (upd H' D (.lst (vs ++ [y]))) (acc ++ [d]) := by
  have g : Go (fun b => b = D) A' A' H' (upd H' D (.lst (vs ++ [y]))) := by
    refine ⟨fun b o e n => by rw [upd_ne n]; exact e, fun b e => ?_, fun _ e => e, fun _ e => .inl e⟩
    by_cases hb : b = D
    · rw [hb, upd_same] at e; cases e
    · rw [upd_ne hb] at e; exact e
  have hL : ∀ b, b = D → A' b := fun b e => e ▸ h.own
  refine ⟨h.go.trans g fun b e => .inl (.inr e), h.pre, ⟨fun a lo hmem => ?_, h.mem.nd, fun b hb => ?_⟩, h.own, ?_⟩
  · have nd : a ≠ D := fun z => h.notD hm hD lo (z ▸ hmem)
    have w := h.mem.ok a lo hmem
    cases lo with
    | lst ds => obtain ⟨w1, vs, w2, w3⟩ := w; exact ⟨w1, vs, by rw [upd_ne nd]; exact w2, w3.go g hL⟩
    | dic ds => obtain ⟨w1, vs, w2, w3⟩ := w; exact ⟨w1, vs, by rw [upd_ne nd]; exact w2, w3.go g hL⟩
    | ins C ds => obtain ⟨w1, dx, vs, w2, w3⟩ := w; exact ⟨w1, dx, vs, by rw [upd_ne nd]; exact w2, w3.go g hL⟩
    | gone => obtain ⟨o, w⟩ := w; exact ⟨o, by rw [upd_ne nd]; exact w⟩
  · by_cases hb2 : b = D
    · exact ⟨_, by rw [hb2]; exact upd_same⟩
    · obtain ⟨o, e⟩ := h.mem.al b hb
      exact ⟨o, by rw [upd_ne hb2]; exact e⟩
  · obtain ⟨ws, h1, h2⟩ := h.lst
    rw [hv] at h1; cases h1
    exact ⟨_, upd_same, (h2.go g hL).append (.cons (r.go g hL) .nil)⟩
theorem lc_lift {K : PySem.W.Frag} {W : WX} {ri : RI} {rg : RG} {rt : RT} {re : RE} {vs ix : List Nat} {fin : List Dat → Mem → (Cv → Mem → Prop) → Prop} (hix : ∀ i ∈ ix, i ∈ vs)
    (hfin : ∀ (A : Addr → Prop) (m : Mem) (H : Hp) (D : Addr) (A1 : Addr → Prop) (m1 : Mem) (H1 : Hp) (acc : List Dat) (Kc : Cv → Mem → Prop) (Q : VK), MemOk K A H m → H D = none → LcI K A m H D A1 m1 H1 acc → fin acc m1 Kc →
      (∀ c A' m' v H', Kc c m' → Step K A m H A' m' H' → CvOk K A' H' m' v c → Q v H') → Q (.ref D) H1)
    {σ : L2.St} {H : Hp} {Q : VK} (h : liftE K W (rLcK ri rg rt re vs fin) σ H Q) : tLc (liftI K W ri) (liftG K ix rg) (liftT K W0 rt) (liftE K W0 re) vs σ H Q := by
  obtain ⟨A, g, m, Kc, KE, hm, hc, q, k, ex⟩ := h
  refine ⟨A, g, m, _, KE, hm, hc, q, fun ds st A1 m1 J H1 q1 s1 st1 w D hD => ?_, ex⟩
  refine ⟨fun i n H' => n = ds.length - i ∧ i ≤ ds.length ∧ ∃ A' m' acc, LcI K A1 m1 H1 D A' m' H' acc ∧ st m' ∧ lcW rg rt re st (wipeG g vs) (fun acc m2 => fin acc m2 Kc) (ds.drop i) acc m', ⟨ds.length, by simp, Nat.zero_le _, ?_⟩, ?_⟩
  · refine ⟨fun b => A1 b ∨ b = D, m1, [], ⟨⟨fun _ _ e _ => e, fun _ e => e, fun _ e => e, fun _ e => .inl e⟩, paired_refl (FrGo.refl _) m1, ?_, .inr rfl, [], upd_same, .nil⟩, s1, q1⟩
    have e2 : ∀ b u, H1 b = some u → upd H1 D (.lst []) b = some u := fun b u e => by rw [upd_ne (ne_of_none e hD)]; exact e
    have gm : ∀ b, upd H1 D (.lst []) b = none → H1 b = none := fun b e => by
      cases q : H1 b with
      | none => rfl
      | some o =>
        rw [e2 b o q] at e
        cases e
    have gx : Go (fun _ => False) A1 (fun b => A1 b ∨ b = D) H1 (upd H1 D (.lst [])) := ⟨fun b o e _ => e2 b o e, gm, fun _ e => .inl e, fun b e => e.elim .inl fun e => .inr (by rw [e]; exact hD)⟩
    refine ⟨fun a lo hmem => ?_, st1.mem.nd, fun b hb => ?_⟩
    · have q := st1.mem.ok a lo hmem
      cases lo with
      | lst ds => obtain ⟨q1, vs, q2, q3⟩ := q; exact ⟨.inl q1, vs, e2 _ _ q2, q3.go gx fun _ z => z.elim⟩
      | dic ds => obtain ⟨q1, vs, q2, q3⟩ := q; exact ⟨.inl q1, vs, e2 _ _ q2, q3.go gx fun _ z => z.elim⟩
      | ins C ds => obtain ⟨q1, dx, vs, q2, q3⟩ := q; exact ⟨.inl q1, dx, vs, e2 _ _ q2, q3.go gx fun _ z => z.elim⟩
      | gone => obtain ⟨o, q⟩ := q; exact ⟨o, e2 _ _ q⟩
    · rcases hb with hb | hb
      · obtain ⟨o, q⟩ := st1.mem.al b hb
        exact ⟨o, e2 _ _ q⟩
      · exact ⟨_, by rw [hb]; exact upd_same⟩
  · rintro i n H' ⟨rfl, hi, A', m', acc, L, s2, q2⟩
    have ne1 : ∀ b o, H1 b = some o → b ≠ D := fun b o e z => by rw [z, hD] at e; cases e
    have gJ : Go (Live m1) A1 A' H1 H' := by
      refine ⟨fun b o e n => L.go.keep b o (by rw [upd_ne (ne1 b o e)]; exact e) fun z => z.elim n (ne1 b o e), (L.fin st1.mem hD).go.mono, fun b e => L.go.up b (.inl e), fun b e => ?_⟩
      by_cases hb : b = D
      · exact .inr (by rw [hb]; exact hD)
      · exact (L.fin st1.mem hD).go.new b ⟨e, hb⟩
    have gJl : ∀ b, Live m' b → Live m1 b ∨ H1 b = none := fun b hb => (L.fin st1.mem hD).liveBack hb
    by_cases hlt : i < ds.length
    · obtain ⟨d, hd⟩ : ∃ d, ds[i]? = some d := ⟨ds[i], by simp [hlt]⟩
      have hdr : ds.drop i = d :: ds.drop (i + 1) := by
        rw [List.drop_eq_getElem_cons hlt]
        have : ds[i] = d := by simpa [hlt] using hd
        rw [this]
      rw [hdr] at q2
      obtain ⟨hgo, hy⟩ := w.go i d A' m' H' gJ L.mem s2 hd
      refine .inr ⟨hgo, fun H3 => i + 1 ≤ ds.length ∧ ∃ A3 m3 acc3, LcI K A1 m1 H1 D A3 m3 H3 acc3 ∧ st m3 ∧ lcW rg rt re st (wipeG g vs) (fun acc m2 => fin acc m2 Kc) (ds.drop (i + 1)) acc3 m3, fun H3 h3 => ⟨ds.length - (i + 1), by omega, rfl, h3⟩, fun x H3 y => ?_⟩
      obtain ⟨sm, rp⟩ := hy x H3 y
      have st3 : Step K A' m' H' A' m' H3 := .same L.mem sm
      have L3 := L.step st1.mem hD st3
      have cl3 : CellsOk K A' H3 (L2.wipe σ vs) (wipeG g vs) m' := by
        have c1 := (hc.step hm st1).wipe vs
        refine ⟨c1.len, fun i c e => ?_⟩
        obtain ⟨v, h1, h2⟩ := c1.at_ i c e
        refine ⟨v, h1, ?_⟩
        cases c with
        | p d => exact Rep.go (gJ.trans st3.go (L := Live m1) fun b hb => (gJl b hb)) st1.mem.live h2
        | l n j =>
          obtain ⟨a, lo, h3, h4⟩ := h2
          obtain ⟨lo', h5, _⟩ := pre_get L.pre h3
          exact ⟨a, lo', h5, h4⟩
      refine ⟨A', wipeG g vs, m', .p d, _, L3.mem, cl3, rp, q2, fun g4 A4 m4 σ4 H4 q4 st4 cl4 ch4 => ⟨wipe_idem hix ch4, ?_⟩⟩
      refine ⟨A4, g4, m4, _, KE0, st4.mem, cl4, q4, fun b A5 m5 H5 q5 st5 => ?_, exTo0⟩
      have L5 := (L3.step st1.mem hD st4).step st1.mem hD st5
      cases b with
      | false => exact ⟨hlt, A5, m5, acc, L5, q5.1, q5.2⟩
      | true =>
        refine ⟨A5, g4, m5, _, KE0, st5.mem, cl4.step st4.mem st5, q5, fun c A6 m6 v H6 q6 st6 cv6 => ?_, exTo0⟩
        have L6 := L5.step st1.mem hD st6
        obtain ⟨ws, h7, h8⟩ := L6.lst
        cases c with
        | l n j => exact q6.elim
        | p y => exact ⟨ws, h7, by rw [h8.length]; exact q6.1, hlt, A6, m6, acc ++ [y], L6.app st1.mem hD cv6 h7, q6.2.1, q6.2.2⟩
    · have ei : i = ds.length := by omega
      subst ei
      have hdr : ds.drop ds.length = [] := List.drop_length
      rw [hdr] at q2
      refine .inl ⟨w.stop A' m' H' gJ L.mem s2, ?_⟩
      exact hfin A1 m1 H1 D A' m' H' acc Kc Q st1.mem hD L q2 fun c A2 m2 v H2 kc st2 cv => k c A2 m2 v H2 kc (st1.trans st2) cv
theorem lc_fin {K : PySem.W.Frag} (A : Addr → Prop) (m : Mem) (H : Hp) (D : Addr) (A1 : Addr → Prop) (m1 : Mem) (H1 : Hp) (acc : List Dat) (Kc : Cv → Mem → Prop) (Q : VK) (hm : MemOk K A H m) (hD : H D = none) (L : LcI K A m H D A1 m1 H1 acc)
    (q : Kc (.p (.lst acc)) m1) (k : ∀ c A' m' v H', Kc c m' → Step K A m H A' m' H' → CvOk K A' H' m' v c → Q v H') : Q (.ref D) H1 := by
  obtain ⟨vs, h1, h2⟩ := L.lst
  exact k _ _ _ _ _ q (L.fin hm hD) (Rep.lst h1 (fun z => z.2 rfl) (h2.less fun _ z => z.1))
theorem lc_finN {K : PySem.W.Frag} (A : Addr → Prop) (m : Mem) (H : Hp) (D : Addr) (A1 : Addr → Prop) (m1 : Mem) (H1 : Hp) (acc : List Dat) (Kc : Cv → Mem → Prop) (Q : VK) (hm : MemOk K A H m) (hD : H D = none) (L : LcI K A m H D A1 m1 H1 acc)
    (q : newLst acc m1 Kc) (k : ∀ c A' m' v H', Kc c m' → Step K A m H A' m' H' → CvOk K A' H' m' v c → Q v H') : Q (.ref D) H1 := by
  cases m1 with
  | nil => exact q.elim
  | cons f r =>
  obtain ⟨vs, h1, h2⟩ := L.lst
  have F := L.fin hm hD
  have nd := L.notD hm hD
  refine k _ A1 _ _ _ (q D) ⟨?_, ?_, ?_⟩ ⟨D, .lst acc, fget_push f _, rfl⟩
  · refine ⟨F.go.keep, F.go.mono, fun b e => (F.go.up b e).1, fun b e => ?_⟩
    by_cases hb : b = D
    · exact .inr (by rw [hb]; exact hD)
    · exact F.go.new b ⟨e, hb⟩
  · have p := F.pre
    cases p with
    | cons p1 p2 =>
      have p3 : FrGo (fun b => b = D) f (f ++ [(D, Lo.lst acc)]) := ⟨f, [(D, Lo.lst acc)], rfl, paired_refl RX.refl f, fun x hx => congrArg Prod.fst (List.mem_singleton.mp hx)⟩
      exact .cons (p1.trans p3 (fun _ h => h) fun x hx => by rw [hx]; exact hD) p2
  · have fl : ((f ++ [(D, Lo.lst acc)]) :: r).flatten = f ++ ((D, Lo.lst acc) :: r.flatten) := by rw [List.flatten_cons, List.append_assoc]; rfl
    have fl0 : (f :: r).flatten = f ++ r.flatten := List.flatten_cons
    refine ⟨fun a lo hmem => ?_, ?_, L.mem.al⟩
    · rw [fl] at hmem
      rcases List.mem_append.mp hmem with hx | hx
      · exact L.mem.ok a lo (by rw [fl0]; exact List.mem_append_left _ hx)
      · rcases List.mem_cons.mp hx with e | hx
        · cases e
          exact ⟨L.own, vs, h1, h2⟩
        · exact L.mem.ok a lo (by rw [fl0]; exact List.mem_append_right _ hx)
    · rw [fl, List.map_append, List.map_cons]
      have nn := L.mem.nd
      rw [fl0, List.map_append] at nn
      obtain ⟨n1, n2, n3⟩ := List.nodup_append.mp nn
      refine List.nodup_append.mpr ⟨n1, List.nodup_cons.mpr ⟨fun z => ?_, n2⟩, fun x hx y hy => ?_⟩
      · obtain ⟨⟨a, lo⟩, h3, h4⟩ := List.mem_map.mp z
        have h4' : a = D := h4
        rw [h4'] at h3
        exact nd lo (by rw [fl0]; exact List.mem_append_right _ h3)
      · rcases List.mem_cons.mp hy with e | hy
        · rw [e]
          intro z
          obtain ⟨⟨a, lo⟩, h3, h4⟩ := List.mem_map.mp hx
          have h4' : a = D := Eq.trans (show a = x from h4) z
          rw [h4'] at h3
          exact nd lo (by rw [fl0]; exact List.mem_append_left _ h3)
        · exact n3 x hx y hy
theorem PE.lift {e : Expr} {t : TE} {r : RE} (h : PE X e t) (i : ∀ σ H Q, liftE X.K W r σ H Q → t σ H Q) : DE X W e r := PE.imp h i
abbrev Blk (X : Cx) (scope : Scope) (s : Shared) (H : Hp) (C : Addr) (cl : List (Str × Addr)) (fp : List Addr) : Cx := X.blk s H scope (compEnvC scope cl C X.env) fp
theorem d_lc {elt tg iter : Expr} {ifs : List Expr} {scope : Scope} {own : List (Str × Nat)} {ix : List Nat} {ri : RI} {rg : RG} {rt : RT} {re : RE} (hc : X.calm = true) (hN : X.N.Nodup) (hi : DI X W tg iter ri) (ok : BlkOk X.N X.env.scope scope own) (hix : ∀ i ∈ ix, i ∈ own.map (·.2))
    (hg : ∀ s H C cl fp, DG (Blk X scope s H C cl fp) ix tg rg) (ht : ∀ s H C cl fp, DTs (Blk X scope s H C cl fp) W0 ifs rt) (he : ∀ s H C cl fp, DE (Blk X scope s H C cl fp) W0 elt re)
    (hs : ∀ x, foldedSetIterable iter X.env x = pure x := by intro _; rfl) : DE X W (.ListComp elt [⟨tg, iter, ifs, 0⟩] scope pos) (rLc ri rg rt re (own.map (·.2))) :=
  PE.imp (pe_lc hc hN hi ok hg ht he hs) fun σ H Q h => lc_lift hix lc_fin h
theorem d_lcN {elt tg iter : Expr} {ifs : List Expr} {scope : Scope} {own : List (Str × Nat)} {ix : List Nat} {ri : RI} {rg : RG} {rt : RT} {re : RE} (hc : X.calm = true) (hN : X.N.Nodup) (hi : DI X W tg iter ri) (ok : BlkOk X.N X.env.scope scope own) (hix : ∀ i ∈ ix, i ∈ own.map (·.2))
    (hg : ∀ s H C cl fp, DG (Blk X scope s H C cl fp) ix tg rg) (ht : ∀ s H C cl fp, DTs (Blk X scope s H C cl fp) W0 ifs rt) (he : ∀ s H C cl fp, DE (Blk X scope s H C cl fp) W0 elt re)
    (hs : ∀ x, foldedSetIterable iter X.env x = pure x := by intro _; rfl) : DE X W (.ListComp elt [⟨tg, iter, ifs, 0⟩] scope pos) (rLcN ri rg rt re (own.map (·.2))) :=
  PE.imp (pe_lc hc hN hi ok hg ht he hs) fun σ H Q h => lc_lift hix lc_finN h
theorem setLc_of {i : Nat} {te : TE} {ra : RE} (h : ∀ σ H Q, liftE X.K W ra σ H Q → te σ H Q) {D : Ends} {σ : L2.St} {H : Hp} (q : liftS X.K W (rSet i ra) D σ H) : tAsg te (gName i) D σ H := by
  obtain ⟨A, g, m, E, hm, hc, q, e⟩ := liftS_el q
  exact h σ H _ ⟨A, g, m, _, E.ex, hm, hc, q, fun c A1 m1 v H1 q1 st1 cv1 => e.nx _ A1 m1 _ H1 q1 st1 ((hc.step hm st1).put i cv1), e.ex⟩
theorem ds_setLc {i : Nat} {y : Str} {py spos : Pos} {elt tg iter : Expr} {ifs : List Expr} {scope : Scope} {own : List (Str × Nat)} {ix : List Nat} {ri : RI} {rg : RG} {rt : RT} {re : RE} (hc : X.calm = true) (hN : X.N.Nodup)
    (hi : DI X W tg iter ri) (ok : BlkOk X.N X.env.scope scope own) (hix : ∀ i ∈ ix, i ∈ own.map (·.2))
    (hg : ∀ s H C cl fp, DG (Blk X scope s H C cl fp) ix tg rg) (ht : ∀ s H C cl fp, DTs (Blk X scope s H C cl fp) W0 ifs rt) (he : ∀ s H C cl fp, DE (Blk X scope s H C cl fp) W0 elt re)
    (hy : X.N[i]? = some y := by rfl) (hyl : X.env.scope.names.lookup y = some .local := by rfl) (hsw : swapsWith (.ListComp elt [⟨tg, iter, ifs, 0⟩] scope pos) (some (.Name y py)) spos.line X.env = pure true := by first | exact sw_true rfl rfl rfl (by decide +kernel) | rfl)
    (hs : ∀ x, foldedSetIterable iter X.env x = pure x := by intro _; rfl) : DS X W (.Assign [.Name y py] (.ListComp elt [⟨tg, iter, ifs, 0⟩] scope pos) spos) (rSet i (rLc ri rg rt re (own.map (·.2)))) :=
  PS.imp (ps_setLc hc hN hy hyl hsw hi ok hg ht he hs) fun D σ H h => setLc_of (fun σ H Q q => lc_lift hix lc_fin q) h
theorem ds_setLcN {i : Nat} {y : Str} {py spos : Pos} {elt tg iter : Expr} {ifs : List Expr} {scope : Scope} {own : List (Str × Nat)} {ix : List Nat} {ri : RI} {rg : RG} {rt : RT} {re : RE} (hc : X.calm = true) (hN : X.N.Nodup)
    (hi : DI X W tg iter ri) (ok : BlkOk X.N X.env.scope scope own) (hix : ∀ i ∈ ix, i ∈ own.map (·.2))
    (hg : ∀ s H C cl fp, DG (Blk X scope s H C cl fp) ix tg rg) (ht : ∀ s H C cl fp, DTs (Blk X scope s H C cl fp) W0 ifs rt) (he : ∀ s H C cl fp, DE (Blk X scope s H C cl fp) W0 elt re)
    (hy : X.N[i]? = some y := by rfl) (hyl : X.env.scope.names.lookup y = some .local := by rfl) (hsw : swapsWith (.ListComp elt [⟨tg, iter, ifs, 0⟩] scope pos) (some (.Name y py)) spos.line X.env = pure true := by first | exact sw_true rfl rfl rfl (by decide +kernel) | rfl)
    (hs : ∀ x, foldedSetIterable iter X.env x = pure x := by intro _; rfl) : DS X W (.Assign [.Name y py] (.ListComp elt [⟨tg, iter, ifs, 0⟩] scope pos) spos) (rSet i (rLcN ri rg rt re (own.map (·.2)))) :=
  PS.imp (ps_setLc hc hN hy hyl hsw hi ok hg ht he hs) fun D σ H h => setLc_of (fun σ H Q q => lc_lift hix lc_finN q) h
end
end DL
/-! DL5: defs and their promises over plain data; calls. -/
namespace DL
open PySem PySem.Spec PyProof.Rows L2
/-- room for k calls, and no repr under way -/
structure Rm (k : Nat) (A : Around) : Prop where
  room : Room k A
  gd : A.guards = some []
theorem Rm.mono {j k : Nat} {A : Around} (r : Rm k A) (h : j ≤ k) : Rm j A := ⟨r.room.mono h, r.gd⟩
theorem Rm.deeper {k : Nat} {A : Around} (r : Rm (k + 1) A) (env : Env) : Rm k (A.deeper env) := ⟨r.room.deeper env, r.gd⟩
theorem Rm.in1 {k : Nat} {A : Around} (r : Rm (k + 1) A) : Rm k A.in1 := ⟨r.room.in1, r.gd⟩
theorem Rm.make {k : Nat} {A : Around} (r : Rm (k + 1) A) (C : Addr) (us : List Value) (kw : List (Str × Value)) : Rm k (A.under (.builtin "type.__call__" ⟨.ref C :: us, kw⟩)) := by
  refine ⟨r.room.make C us kw, ?_⟩
  have e : (Code.builtin "type.__call__" ⟨.ref C :: us, kw⟩).guards = [] := by
    have z : (Code.builtin "type.__call__" ⟨.ref C :: us, kw⟩).isGuard = false := by
      show guardIds.contains "type.__call__" = false
      decide +kernel
    unfold Code.guards
    rw [z]; rfl
  show pushGuards (Code.builtin "type.__call__" ⟨.ref C :: us, kw⟩).guards A.guards = some []
  rw [e]; exact r.gd
/-! ### into a def's frame and out of it -/
def shc : Cv → Cv
  | .p d => .p d
  | .l n i => .l (n + 1) i
def entry : List Str → List Cv → G
  | [], _ => []
  | _ :: N, [] => none :: entry N []
  | _ :: N, c :: cs => some (shc c) :: entry N cs
/-- an object of a def's own goes over to the caller -/
def newObj (a : Addr) (lo : Lo) (m : Mem) (Kc : Cv → Mem → Prop) : Prop := match m with
  | f :: r => Kc (.l 0 f.length) ((f ++ [(a, lo)]) :: r)
  | [] => False
/-- a def's way out; new: its own object is handed over as one that may change, else as plain data -/
def exK (new : Bool) (Kc : Cv → Mem → Prop) : Cv → Mem → Prop := fun c m => match m, c with
  | _ :: r, .p d => Kc (.p d) r
  | f :: r, .l 0 i => if new = true then (match fget f i with
      | some (a, lo) => newObj a lo r Kc
      | none => False) else Kc (.p (view (f :: r) (.l 0 i))) r
  | _ :: r, .l (n + 1) i => Kc (.l n i) r
  | [], _ => False
section
variable {K : PySem.W.Frag} {A A' : Addr → Prop} {H H' : Hp} {m r : Mem} {f : List (Addr × Lo)}
theorem pop_step (hm : MemOk K A H m) (s : Step K A ([] :: m) H A' (f :: r) H') (P : Addr → Prop) (hP : ∀ b, P b → ∃ lo, (b, lo) ∈ f) : Step K A m H (fun b => A' b ∧ ¬ P b) r H' := by
  have fr : ∀ x ∈ f, H x.1 = none := by
    cases s.pre with
    | cons p q =>
      obtain ⟨f1, f2, e, p1, p2⟩ := p
      cases p1
      rw [e]
      exact p2
  have nP : ∀ b o, H b = some o → ¬ P b := fun b o e z => by
    obtain ⟨lo, h⟩ := hP b z
    have := fr _ h
    rw [e] at this; cases this
  have dj : ∀ a lo, (a, lo) ∈ r.flatten → ¬ P a := fun a lo h z => by
    obtain ⟨lo', h'⟩ := hP a z
    have nd := s.mem.nd
    rw [List.flatten_cons, List.map_append] at nd
    exact (List.nodup_append.mp nd).2.2 a (List.mem_map.mpr ⟨_, h', rfl⟩) a (List.mem_map.mpr ⟨_, h, rfl⟩) rfl
  refine ⟨⟨fun b o e n => s.go.keep b o e fun ⟨lo, z, z2⟩ => n ⟨lo, by rw [List.flatten_cons] at z; exact z, z2⟩, s.go.mono, fun b e => ⟨s.go.up b e, ?_⟩, fun b e => s.go.new b e.1⟩, ?_, ?_⟩
  · obtain ⟨o, q⟩ := hm.al b e
    exact nP b o q
  · cases s.pre with
    | cons p q => exact q
  · refine ⟨fun a lo h => ?_, ?_, fun b hb => s.mem.al b hb.1⟩
    · have w := s.mem.ok a lo (by rw [List.flatten_cons]; exact List.mem_append_right _ h)
      have nd := dj a lo h
      cases lo with
      | lst ds => obtain ⟨w1, vs, w2, w3⟩ := w; exact ⟨⟨w1, nd⟩, vs, w2, w3.less fun _ z => z.1⟩
      | dic ds => obtain ⟨w1, vs, w2, w3⟩ := w; exact ⟨⟨w1, nd⟩, vs, w2, w3.less fun _ z => z.1⟩
      | ins C ds => obtain ⟨w1, dx, vs, w2, w3⟩ := w; exact ⟨⟨w1, nd⟩, dx, vs, w2, w3.less fun _ z => z.1⟩
      | gone => exact w
    · have nd := s.mem.nd
      rw [List.flatten_cons, List.map_append] at nd
      exact (List.nodup_append.mp nd).2.1
theorem exK_ok {new : Bool} {Kc : Cv → Mem → Prop} {c : Cv} {m' : Mem} {v : V} {Q : V → Hp → Prop} (hm : MemOk K A H m) (s : Step K A ([] :: m) H A' m' H') (cv : CvOk K A' H' m' v c) (q : exK new Kc c m')
    (k : ∀ c A' m' v H', Kc c m' → Step K A m H A' m' H' → CvOk K A' H' m' v c → Q v H') : Q v H' := by
  cases m' with
  | nil => exact q.elim
  | cons f r =>
  cases c with
  | p d => exact k _ _ _ _ _ q (pop_step hm s (fun _ => False) fun _ z => z.elim) (Rep.less (fun _ z => z.1) cv)
  | l n i =>
  obtain ⟨a, lo, h1, rfl⟩ := cv
  cases n with
  | succ n => exact k _ _ _ _ _ q (pop_step hm s (fun _ => False) fun _ z => z.elim) ⟨a, lo, h1, rfl⟩
  | zero =>
  have h1' : fget f i = some (a, lo) := h1
  have hin := fget_mem h1'
  cases new with
  | false =>
    have q2 : Kc (.p (view (f :: r) (.l 0 i))) r := q
    refine k _ _ _ _ _ q2 (pop_step hm s (fun b => b = a) fun b e => ⟨lo, by rw [e]; exact hin⟩) ?_
    have w := s.mem.ok a lo (mget_mem h1)
    show Rep K _ H' (.ref a) (match mget (f :: r) 0 i with
      | some (a, .gone) => .raw (.ref a)
      | some (_, lo) => dat lo
      | none => .non)
    rw [h1]
    cases lo with
    | lst ds => obtain ⟨w1, vs, w2, w3⟩ := w; exact .lst w2 (fun z => z.2 rfl) (w3.less fun _ z => z.1)
    | dic ds => obtain ⟨w1, vs, w2, w3⟩ := w; exact .dic (.inl w2) (fun z => z.2 rfl) (w3.less fun _ z => z.1)
    | ins C ds => obtain ⟨w1, dx, vs, w2, w3⟩ := w; exact .ins w2 (fun z => z.2 rfl) (w3.less fun _ z => z.1)
    | gone => exact .raw _
  | true =>
    have q2 : newObj a lo r Kc := by
      have q3 : match fget f i with
        | some (a, lo) => newObj a lo r Kc
        | none => False := q
      rw [h1'] at q3
      exact q3
    cases r with
    | nil => exact q2.elim
    | cons f0 r =>
    have P := pop_step hm s (fun _ => False) fun _ z => z.elim
    have fr : H a = none := by
      cases s.pre with
      | cons p q =>
        obtain ⟨f1, f2, e, p1, p2⟩ := p
        cases p1
        exact p2 (a, lo) (by rw [e] at hin; exact hin)
    have fl : ((f0 ++ [(a, lo)]) :: r).flatten = f0 ++ ((a, lo) :: r.flatten) := by rw [List.flatten_cons, List.append_assoc]; rfl
    have fl0 : (f0 :: r).flatten = f0 ++ r.flatten := List.flatten_cons
    have nd := s.mem.nd
    rw [List.flatten_cons, List.map_append] at nd
    obtain ⟨n1, n2, n3⟩ := List.nodup_append.mp nd
    have na : ∀ x ∈ (f0 :: r).flatten.map (·.1), x ≠ a := fun x hx e => n3 a (List.mem_map.mpr ⟨_, hin, rfl⟩) x hx e.symm
    refine k _ A' _ _ _ q2 ⟨⟨P.go.keep, P.go.mono, fun b e => (P.go.up b e).1, fun b e => P.go.new b ⟨e, id⟩⟩, ?_, ⟨fun b lo' hb => ?_, ?_, s.mem.al⟩⟩ ⟨a, lo, fget_push f0 _, rfl⟩
    · cases P.pre with
      | cons p1 p2 =>
        have p3 : FrGo (fun b => b = a) f0 (f0 ++ [(a, lo)]) := ⟨f0, [(a, lo)], rfl, paired_refl RX.refl f0, fun x hx => congrArg Prod.fst (List.mem_singleton.mp hx)⟩
        exact .cons (p1.trans p3 (fun _ h => h) fun x hx => by rw [hx]; exact fr) p2
    · rw [fl] at hb
      rcases List.mem_append.mp hb with hb | hb
      · exact s.mem.ok b lo' (by rw [List.flatten_cons, fl0]; exact List.mem_append_right _ (List.mem_append_left _ hb))
      · rcases List.mem_cons.mp hb with e | hb
        · cases e
          exact s.mem.ok a lo (by rw [List.flatten_cons]; exact List.mem_append_left _ hin)
        · exact s.mem.ok b lo' (by rw [List.flatten_cons, fl0]; exact List.mem_append_right _ (List.mem_append_right _ hb))
    · rw [fl0, List.map_append] at n2 na
      obtain ⟨k1, k2, k3⟩ := List.nodup_append.mp n2
      rw [fl, List.map_append, List.map_cons]
      refine List.nodup_append.mpr ⟨k1, List.nodup_cons.mpr ⟨fun z => na _ (List.mem_append_right _ z) rfl, k2⟩, fun x hx y hy => ?_⟩
      rcases List.mem_cons.mp hy with e | hy
      · rw [e]; exact na x (List.mem_append_left _ hx)
      · exact k3 x hx y hy
theorem MemOk.inner (hm : MemOk K A H m) : MemOk K A H ([] :: m) := ⟨fun a lo h => hm.ok a lo (by rw [List.flatten_cons] at h; exact h), by rw [List.flatten_cons]; exact hm.nd, hm.al⟩
theorem CvOk.inner {v : V} {c : Cv} (h : CvOk K A H m v c) : CvOk K A H ([] :: m) v (shc c) := by
  cases c with
  | p d => exact h
  | l n i => obtain ⟨a, lo, h1, h2⟩ := h; exact ⟨a, lo, h1, h2⟩
theorem cells_none : ∀ (N : List Str) (m : Mem), CellsOk K A H (List.replicate N.length none) (entry N []) m
  | [], m => ⟨rfl, fun i c e => by simp [entry] at e⟩
  | x :: N, m => by
    have ih := cells_none N m
    refine ⟨congrArg Nat.succ ih.len, fun i c e => ?_⟩
    cases i with
    | zero => simp [entry] at e
    | succ i =>
      obtain ⟨v, h1, h2⟩ := ih.at_ i c (by simpa [entry] using e)
      exact ⟨v, by rw [List.length_cons, List.replicate_succ]; simpa using h1, h2⟩
theorem cells_entry : ∀ {N : List Str} {vs : List V} {cs : List Cv}, CvsOk K A H m vs cs → vs.length ≤ N.length → CellsOk K A H (L2.start N vs) (entry N cs) ([] :: m)
  | N, _, _, .nil, _ => by
    have q := cells_none (K := K) (A := A) (H := H) N ([] :: m)
    have e : L2.start N [] = List.replicate N.length none := by unfold L2.start; simp
    rw [e]; exact q
  | [], _, _, .cons _ _, h => by simp at h
  | x :: N, v :: vs, c :: cs, .cons r t, h => by
    have ih := cells_entry (N := N) t (by simpa using h)
    have e : L2.start (x :: N) (v :: vs) = some v :: L2.start N vs := by
      unfold L2.start
      simp only [List.map_cons, List.length_cons, List.cons_append]
      congr 3
      omega
    rw [e]
    refine ⟨congrArg Nat.succ ih.len, fun i c' e => ?_⟩
    cases i with
    | zero =>
      have e' : c' = shc c := by
        have : some (shc c) = some c' := by simpa [entry] using e
        exact (Option.some.inj this).symm
      subst e'
      exact ⟨v, rfl, r.inner⟩
    | succ i =>
      obtain ⟨v, h1, h2⟩ := ih.at_ i c' (by simpa [entry] using e)
      exact ⟨v, by simpa using h1, h2⟩
end
/-! ### promises -/
abbrev DSp := List Cv → Mem → (Cv → Mem → Prop) → (Xn → Mem → Prop) → Prop
def toSp (K : PySem.W.Frag) (S : DSp) : Sp := fun vs H Q E => ∃ (A : Addr → Prop) (cs : List Cv) (m : Mem) (Kc : Cv → Mem → Prop) (KE : Xn → Mem → Prop), MemOk K A H m ∧ CvsOk K A H m vs cs ∧ S cs m Kc KE ∧
  (∀ c A' m' v H', Kc c m' → Step K A m H A' m' H' → CvOk K A' H' m' v c → Q v H') ∧ (∀ x A' m' H' cls d, KE x m' → Step K A m H A' m' H' → XnOk K A' H' x cls d → E cls d H')
structure DFn (P : Program) (w : World) (K : PySem.W.Frag) (mg : Str → Option Value) (base : Heap) (k : Nat) (f : Addr) (fd : FuncData) (ps : List Str) (S : DSp) : Prop where
  len : ∀ cs m Kc KE, S cs m Kc KE → cs.length = ps.length
  run : ∀ (A : Around) (outer : List Env) (s : Shared) (H : Hp) (args : Args) (us : List Value) (vs : List V) (Q : VK) (E : XK), Rm k A → Env0 P w K mg base A outer s H → BindsTo s fd args (ps.zip us) → Vals vs us → toSp K S vs H Q E →
    codeAny (model P w) A (.call (.ref f) args) (CR (L2.CX P w) outer P w H s Q E) s
theorem paired_length {α β : Type} {R : α → β → Prop} {xs : List α} {ys : List β} (h : Paired R xs ys) : xs.length = ys.length := by
  induction h with
  | nil => rfl
  | cons _ _ ih => exact congrArg Nat.succ ih
theorem toSp_len {K : PySem.W.Frag} {S : DSp} {ps : List Str} (len : ∀ cs m Kc KE, S cs m Kc KE → cs.length = ps.length) : ∀ vs H Q E, toSp K S vs H Q E → vs.length = ps.length := fun vs H Q E ⟨A, cs, m, Kc, KE, hm, hc, q, _⟩ =>
  (paired_length hc).trans (len _ _ _ _ q)
section
variable {P : Program} {w : World} {K : PySem.W.Frag} {mg : Str → Option Value} {base : Heap}
theorem DFn.mono {j k : Nat} {f : Addr} {fd : FuncData} {ps : List Str} {S : DSp} (F : DFn P w K mg base j f fd ps S) (h : j ≤ k) : DFn P w K mg base k f fd ps S := ⟨F.len, fun A outer s H args us vs Q E hr => F.run A outer s H args us vs Q E (hr.mono h)⟩
/-- THE RULE for a def: its body's reading, then the promise by that reading -/
theorem DFn.of {x qual : Str} {params : Arguments} {body : List Stmt} {scope : Scope} {dvs : List V} {kws : List (Str × V)} {f : Addr} {fd : FuncData} {N ps : List Str} {k : Nat} {S : DSp} (new : Bool) (F : FunD K x qual params body scope dvs kws f fd) (Sc : FnScope N ps scope)
    (len : ∀ cs m Kc KE, S cs m Kc KE → cs.length = ps.length)
    (hb : ∀ (cdv : Value) (A : Around) (outer : List Env) (s : Shared) (H : Hp) (E : XK), Rm k (A.deeper (envOfC qual scope s.heap.objs.size f cdv)) →
      ∃ r, DSs (cxOf (L2.CX P w) P w K mg base N qual scope f cdv A outer s H E) (fun c d _ H => E c d H) body r ∧
        ∀ cs m Kc KE, S cs m Kc KE → r { nx := fun _ m => exK new Kc (.p .non) m, rt := exK new Kc, ex := fun x _ m => KE x m.tail } (entry N cs) ([] :: m)) :
    DFn P w K mg base (k + 1) f fd ps S := by
  obtain ⟨oc, od, dV, kV, doc, pm, an, cdv, ct, osl, rfl, lk, hcd, _, _⟩ := F.ex
  refine ⟨len, fun A outer s H args us vs Q E hr e0 hbd rv hsp => ?_⟩
  have hl : vs.length = ps.length := toSp_len len vs H Q E hsp
  have kin : K.In s.heap := e0.mod.kin.keeps fun b o q => (e0.bs b o q).1
  have par : ∀ y ∈ ps.zip us, scope.names.lookup y.1 = some .local ∨ (scope.names.lookup y.1 = some .cell ∧ ((cellsFrom (s.heap.objs.size + 1) scope.names []).lookup y.1).isSome = true) := by
    rintro ⟨n, v⟩ hy
    exact (Sc.par n (List.of_mem_zip hy).1).imp id fun q => ⟨q, PySem.W.cellsFrom_some _ _ _ (.inl q)⟩
  refine codeAny_call_function hr.room.depth (kin _ _ lk) rfl Sc.co Sc.gen rfl (PySem.W.codeRec_of kin hcd) (hbd _ _ _ _ ?_)
  refine wpAny_newFunctionEnv_cells Sc.kind par fun env he s1 ic => ?_
  subst he
  refine ⟨(e0.mod.nolimit.keeps fun b o q => (e0.bs b o q).1).keeps ic.toInCall.keep, codeAny_func ?_⟩
  obtain ⟨r, hr2, hq⟩ := hb cdv A outer s H E (hr.deeper _)
  have I : Inv (cxOf (L2.CX P w) P w K mg base N qual scope f cdv A outer s H E) [] (L2.start N vs) H s1 := inv_start Sc hr.room.hd e0 hl rv ic
  obtain ⟨Av, cs, m, Kc, KE, hm, hc, q, kc, ke⟩ := hsp
  have hN : vs.length ≤ N.length := by
    have e := congrArg List.length Sc.pre
    rw [List.length_take] at e
    omega
  have body : liftS K (fun c d _ H => E c d H) r { nx := fun _ H' => Q .non H', rt := Q } (L2.start N vs) H := by
    refine liftS_mk hm.inner (cells_entry hc hN) (hq cs m Kc KE q) ⟨?_, ?_, ?_, ?_, ?_⟩
    · exact fun g' A' m' σ' H' q' st _ => exK_ok hm st (c := .p .non) Rep.non q' kc
    · exact fun c A' m' v H' q' st cv => exK_ok hm st cv q' kc
    · exact fun _ _ _ _ _ z _ _ => z.elim
    · exact fun _ _ _ _ _ z _ _ => z.elim
    · intro x g' A' m' σ' H' cls d q' st _ xo
      cases m' with
      | nil => cases st.pre
      | cons f r =>
        obtain ⟨x1, x2⟩ := xo
        refine ke x _ _ H' cls d q' (pop_step hm st (fun _ => False) fun _ z => z.elim) ⟨x1, ?_⟩
        cases d with
        | none => exact x2
        | some dx => obtain ⟨vs', x3, x4⟩ := x2; exact ⟨vs', x3, x4.less fun _ z => z.1⟩
  refine wpAny_mono (hr2.run [] s1 (L2.start N vs) H _ I body) (fun fl s' hs => ?_) fun e s' hs => hs
  have fin : ∀ {σ' : L2.St} {H' : Hp} {v : V} {u : Value}, Inv (cxOf (L2.CX P w) P w K mg base N qual scope f cdv A outer s H E) [] σ' H' s' → RelV v u → Q v H' → CE outer P w H s Q u s' := fun {σ' H' v u} J r1 q1 => ⟨v, H', J.os, J.bare, J.base, J.hok, r1, q1⟩
  cases fl with
  | ret u => obtain ⟨v, σ', H', J, r1, q1⟩ := hs; exact fin J r1 q1
  | next => obtain ⟨σ', H', J, q1⟩ := hs; exact fin (v := V.non) (u := Value.none) J rfl q1
  | brk => obtain ⟨_, _, _, q1⟩ := hs; exact q1.elim
  | cont => obtain ⟨_, _, _, q1⟩ := hs; exact q1.elim
end
/-! ### calls -/
section
variable {X : Cx} {W : WX} {k : Nat} {f : Addr} {fd : FuncData} {ps : List Str} {S : DSp} {dvs : List V} {ds : List Value} {dds : List Dat} {x : Str} {p pos : Pos} {e : Expr} {es : List Expr} {ra : RA}
/-- f's promise at these cells, from a body: what is raised goes on -/
def callK (S : DSp) (cs : List Cv) (g : G) (m : Mem) (K : Cv → Mem → Prop) (KE : XC) : Prop := S cs m K fun x m' => KE x g m'
theorem code_dfn {pins : List (Addr × Obj)} {σ : L2.St} {H : Hp} {s : Shared} {us : List Value} {vs : List V} {args : Args} {A : Addr → Prop} {g : G} {m : Mem} {cs : List Cv} {Kc : Cv → Mem → Prop} {KE : XC}
    (F : DFn X.prog X.w X.K X.mg X.base k f fd ps S) (hr : Rm k X.A) (tk : Takes X W) (hb : BindsTo s fd args (ps.zip us)) (I : Inv X pins σ H s) (rv : Vals vs us) (hm : MemOk X.K A H m) (hc : CellsOk X.K A H σ g m) (cv : CvsOk X.K A H m vs cs) (q : callK S cs g m Kc KE) (ex : ExTo X.K W A m H KE) :
    codeAny (model X.prog X.w) X.A (.call (.ref f) args) (fun r s' => match r with | .ok (.ret v) => EvP X pins σ A m H Kc v s' | .ok _ => False | .error e => X.xe e s') s := by
  refine codeAny_mono (F.run X.A X.stack s H args us vs (fun v H1 => ∃ A1 m1 c1, Step X.K A m H A1 m1 H1 ∧ CvOk X.K A1 H1 m1 v c1 ∧ Kc c1 m1) (fun cls d H' => W cls d σ H') hr I.env0 hb rv
    ⟨A, cs, m, Kc, fun x m' => KE x g m', hm, cv, q, fun c A' m' v H' kc st cv' => ⟨A', m', c, st, cv', kc⟩, fun x A' m' H' cls d ke st xo => ex x g A' m' σ H' cls d ke st (hc.step hm st) xo⟩) fun r s' hq => ?_
  cases r with
  | error z => exact tk z s' (XE.of_call I (fun _ _ _ h => h) hq)
  | ok fl =>
    cases fl with
    | ret u =>
      obtain ⟨v, H1, I1, rv1, A1, m1, c1, st, cv1, kc⟩ := I.after hq
      exact ⟨v, H1, A1, m1, c1, I1, rv1, st, cv1, kc⟩
    | next => exact False.elim hq
    | brk => exact False.elim hq
    | cont => exact False.elim hq
end
end DL
/-! DL6: objects that change are written; fields, lists, subscripts; pairs of names. -/
namespace DL
open PySem PySem.Spec PyProof.Rows L2
section
variable {K : PySem.W.Frag} {A A' : Addr → Prop} {H H' : Hp} {m : Mem}
theorem fset_split : ∀ {f : List (Addr × Lo)} {i : Nat} {a : Addr} {lo : Lo} (lo' : Lo), fget f i = some (a, lo) → ∃ p q, f = p ++ (a, lo) :: q ∧ fset f i lo' = p ++ (a, lo') :: q
  | [], _, _, _, _, h => by cases h
  | x :: f, 0, a, lo, lo', h => by
    have e : x = (a, lo) := Option.some.inj h
    subst e
    exact ⟨[], f, rfl, rfl⟩
  | x :: f, i + 1, a, lo, lo', h => by
    obtain ⟨p, q, e1, e2⟩ := fset_split (f := f) (i := i) lo' h
    exact ⟨x :: p, q, by rw [e1]; rfl, by show x :: fset f i lo' = _; rw [e2]; rfl⟩
theorem mset_split : ∀ {m : Mem} {n i : Nat} {a : Addr} {lo : Lo} (lo' : Lo), mget m n i = some (a, lo) → ∃ p q, m.flatten = p ++ (a, lo) :: q ∧ (mset m n i lo').flatten = p ++ (a, lo') :: q
  | f :: m, 0, i, a, lo, lo', h => by
    obtain ⟨p, q, e1, e2⟩ := fset_split lo' (show fget f i = some (a, lo) from h)
    refine ⟨p, q ++ m.flatten, ?_, ?_⟩
    · rw [List.flatten_cons, e1, List.append_assoc]; rfl
    · show (fset f i lo' :: m).flatten = _
      rw [List.flatten_cons, e2, List.append_assoc]; rfl
  | f :: m, n + 1, i, a, lo, lo', h => by
    obtain ⟨p, q, e1, e2⟩ := mset_split (m := m) (n := n) (i := i) lo' h
    refine ⟨f ++ p, q, ?_, ?_⟩
    · rw [List.flatten_cons, e1, List.append_assoc]
    · show (f :: mset m n i lo').flatten = _
      rw [List.flatten_cons, e2, List.append_assoc]
theorem fset_pre {N : Addr → Prop} {lo' : Lo} : ∀ {f : List (Addr × Lo)} {i : Nat} {a : Addr} {lo : Lo}, lo ≠ .gone → fget f i = some (a, lo) → FrGo N f (fset f i lo') := by
  intro f i a lo hl h
  refine ⟨fset f i lo', [], by simp, ?_, fun x hx => by cases hx⟩
  induction f generalizing i with
  | nil => cases h
  | cons x f ih =>
    cases i with
    | zero =>
      have e : x = (a, lo) := Option.some.inj h
      subst e
      exact .cons ⟨rfl, fun z => absurd z hl⟩ (paired_refl RX.refl f)
    | succ i => exact .cons (RX.refl _) (ih (i := i) h)
theorem mset_pre {N : Addr → Prop} {lo' : Lo} : ∀ {m : Mem} {n i : Nat} {a : Addr} {lo : Lo}, lo ≠ .gone → mget m n i = some (a, lo) → Paired (FrGo N) m (mset m n i lo')
  | f :: m, 0, i, a, lo, hl, h => .cons (fset_pre hl h) (paired_refl (FrGo.refl _) m)
  | f :: m, n + 1, i, a, lo, hl, h => .cons (FrGo.refl _ f) (mset_pre (m := m) (n := n) hl h)
/-- an object that may change is written -/
theorem Step.write {n i : Nat} {a : Addr} {lo lo' : Lo} {o : HO} (hm : MemOk K A H m) (h1 : mget m n i = some (a, lo)) (hl : lo ≠ .gone)
    (hn : ∀ H' : Hp, Go (Live m) A A H H' → H' a = some o → LoOk K A H' a lo') : Step K A m H A (mset m n i lo') (upd H a o) := by
  have lv : Live m a := ⟨lo, mget_mem h1, hl⟩
  have gg : Go (Live m) A A H (upd H a o) := by
    refine ⟨fun b u e n => ?_, fun b e => ?_, fun _ e => e, fun _ e => .inl e⟩
    · rw [upd_ne (fun z => n (by rw [z]; exact lv))]; exact e
    · by_cases z : b = a
      · subst z; rw [upd_same] at e; cases e
      · rw [upd_ne z] at e; exact e
  obtain ⟨p, q, e1, e2⟩ := mset_split lo' h1
  have nd := hm.nd
  rw [e1, List.map_append, List.map_cons] at nd
  obtain ⟨n1, n2, n3⟩ := List.nodup_append.mp nd
  have oth : ∀ b lb, (b, lb) ∈ p ∨ (b, lb) ∈ q → LoOk K A (upd H a o) b lb := fun b lb hb => by
    have ne : b ≠ a := by
      rcases hb with hb | hb
      · exact n3 b (List.mem_map.mpr ⟨_, hb, rfl⟩) a (List.mem_cons_self ..)
      · intro z
        exact (List.nodup_cons.mp n2).1 (by rw [← z]; exact List.mem_map.mpr ⟨_, hb, rfl⟩)
    have w := hm.ok b lb (by
      rw [e1]
      rcases hb with hb | hb
      · exact List.mem_append_left _ hb
      · exact List.mem_append_right _ (List.mem_cons_of_mem _ hb))
    cases lb with
    | lst ds => obtain ⟨w1, vs, w2, w3⟩ := w; exact ⟨w1, vs, by rw [upd_ne ne]; exact w2, w3.go gg hm.live⟩
    | dic ds => obtain ⟨w1, vs, w2, w3⟩ := w; exact ⟨w1, vs, by rw [upd_ne ne]; exact w2, w3.go gg hm.live⟩
    | ins C ds => obtain ⟨w1, dx, vs, w2, w3⟩ := w; exact ⟨w1, dx, vs, by rw [upd_ne ne]; exact w2, w3.go gg hm.live⟩
    | gone => obtain ⟨u, w⟩ := w; exact ⟨u, by rw [upd_ne ne]; exact w⟩
  refine ⟨gg, mset_pre hl h1, ⟨fun b lb hb => ?_, ?_, fun b hb => ?_⟩⟩
  · rw [e2] at hb
    rcases List.mem_append.mp hb with hb | hb
    · exact oth b lb (.inl hb)
    · rcases List.mem_cons.mp hb with e | hb
      · cases e
        exact hn _ gg upd_same
      · exact oth b lb (.inr hb)
  · rw [e2, List.map_append, List.map_cons]; exact nd
  · obtain ⟨u, e⟩ := hm.al b hb
    by_cases z : b = a
    · exact ⟨o, by rw [z]; exact upd_same⟩
    · exact ⟨u, by rw [upd_ne z]; exact e⟩
theorem Step.writeL {n i : Nat} {a : Addr} {ds ds' : List Dat} {vs : List V} (hm : MemOk K A H m) (h1 : mget m n i = some (a, .lst ds)) (r : Reps K A H vs ds') : Step K A m H A (mset m n i (.lst ds')) (upd H a (.lst vs)) :=
  Step.write hm h1 (fun z => nomatch z) fun H' g e => ⟨hm.live a ⟨_, mget_mem h1, fun z => nomatch z⟩, vs, e, r.go g hm.live⟩
theorem Step.writeI {n i : Nat} {a C dx : Addr} {fs fs' : List (Str × Dat)} {vs : List (Str × V)} (hm : MemOk K A H m) (h1 : mget m n i = some (a, .ins C fs)) (r : RepF K A H vs fs') : Step K A m H A (mset m n i (.ins C fs')) (upd H a (.ins C dx vs)) :=
  Step.write hm h1 (fun z => nomatch z) fun H' g e => ⟨hm.live a ⟨_, mget_mem h1, fun z => nomatch z⟩, dx, vs, e, r.go g hm.live⟩
theorem MemOk.atL {n i : Nat} {a : Addr} {ds : List Dat} (hm : MemOk K A H m) (h1 : mget m n i = Option.some (a, .lst ds)) : ∃ vs, H a = Option.some (.lst vs) ∧ Reps K A H vs ds := (hm.ok a _ (mget_mem h1)).2
theorem MemOk.atI {n i : Nat} {a C : Addr} {fs : List (Str × Dat)} (hm : MemOk K A H m) (h1 : mget m n i = Option.some (a, .ins C fs)) : ∃ dx vs, H a = Option.some (.ins C dx vs) ∧ RepF K A H vs fs := (hm.ok a _ (mget_mem h1)).2
/-! ### fields -/
def putD (f : Str) (d : Dat) : List (Str × Dat) → List (Str × Dat)
  | [] => [(f, d)]
  | (g, e) :: r => if g = f then (g, d) :: r else (g, e) :: putD f d r
theorem RepF.get {f : Str} : ∀ {vs : List (Str × V)} {fs : List (Str × Dat)} {d : Dat}, RepF K A H vs fs → fs.lookup f = some d → ∃ v, vs.lookup f = some v ∧ Rep K A H v d
  | _, _, _, .nil, e => by cases e
  | (k, v) :: vs, (_, d0) :: fs, d, .cons h r, e => by
    rw [List.lookup_cons] at e ⊢
    cases q : (f == k) with
    | true => rw [q] at e; cases e; exact ⟨v, rfl, h⟩
    | false => rw [q] at e; exact RepF.get r e
theorem RepF.none {f : Str} : ∀ {vs : List (Str × V)} {fs : List (Str × Dat)}, RepF K A H vs fs → fs.lookup f = Option.none → vs.lookup f = Option.none
  | _, _, .nil, e => rfl
  | (k, v) :: vs, (_, d0) :: fs, .cons h r, e => by
    rw [List.lookup_cons] at e ⊢
    cases q : (f == k) with
    | true => rw [q] at e; cases e
    | false => rw [q] at e; exact RepF.none r e
theorem RepF.length : ∀ {vs : List (Str × V)} {fs : List (Str × Dat)}, RepF K A H vs fs → vs.length = fs.length
  | _, _, .nil => rfl
  | _, _, .cons _ r => congrArg Nat.succ (RepF.length r)
theorem RepF.put {f : Str} {v : V} {d : Dat} (h : Rep K A H v d) : ∀ {vs : List (Str × V)} {fs : List (Str × Dat)}, RepF K A H vs fs → RepF K A H (putF f v vs) (putD f d fs)
  | _, _, .nil => .cons h .nil
  | (k, x) :: vs, (_, d0) :: fs, .cons q r => by
    show RepF K A H (if k = f then (k, v) :: vs else (k, x) :: putF f v vs) (if k = f then (k, d) :: fs else (k, d0) :: putD f d fs)
    by_cases e : k = f
    · rw [if_pos e, if_pos e]; exact .cons h r
    · rw [if_neg e, if_neg e]; exact .cons q (RepF.put h r)
end
section
variable {X : Cx} {W : WX} {pos : Pos}
/-- what of the text a class must have, told of each of its fields -/
structure ClsF (K : PySem.W.Frag) (C : Addr) (ok : Str → Bool) : Prop where
  cls : Cls K C
  no : ∀ f, ok f = true → NoAttr K C f
/-- e.f, an attribute of an instance of C -/
def rFld (C : Addr) (f : Str) (ra : RE) : RE := fun g m K KE => ra g m (fun c m1 => match view m1 c with
  | .ins C' fs => C' = C ∧ match fs.lookup f with
    | some d => K (.p d) m1
    | none => False
  | _ => False) KE
theorem d_fld {C : Addr} {e : Expr} {f : Str} {ra : RE} (c : Cls X.K C) (n : NoAttr X.K C f) (he : DE X W e ra) (hb : attributeBase e f X.env (eval e X.env) = eval e X.env := by rfl) : DE X W (.Attribute e f pos) (rFld C f ra) := by
  refine PE.imp (pe_fld he hb) fun σ H Q ⟨A, g, m, Kc, KE, hm, hc, q, k, ex⟩ => ?_
  refine ⟨A, g, m, _, KE, hm, hc, q, fun c1 A1 m1 v H1 q1 st1 cv1 => ?_, ex⟩
  have w := cv1.w st1.mem
  cases e1 : view m1 c1 with
  | ins C' fs =>
    rw [e1] at q1 w
    obtain ⟨rfl, q2⟩ := q1
    obtain ⟨a, dx, vs, rfl, hI, r⟩ := w.inst
    cases e2 : fs.lookup f with
    | none => rw [e2] at q2; exact q2.elim
    | some d =>
      rw [e2] at q2
      obtain ⟨v, l, rv⟩ := RepF.get r e2
      exact ⟨a, _, dx, vs, v, rfl, hI, c, n, l, k _ A1 m1 v H1 q2 st1 rv⟩
  | _ => rw [e1] at q1; exact q1.elim
/-- e.f = value, e an instance that may change, value plain -/
def rSetF (C : Addr) (f : Str) (rv ro : RE) : RS := fun E g m => rv g m (fun cv m1 => ro g m1 (fun co m2 => match cv, co with
  | .p d, .l n i => match mget m2 n i with
    | some (_, .ins C' fs) => C' = C ∧ fs.length < 1000 ∧ E.nx g (mset m2 n i (.ins C (putD f d fs)))
    | _ => False
  | _, _ => False) E.ex) E.ex
theorem ds_fld {C : Addr} {o value : Expr} {f : Str} {pos' : Pos} {rv ro : RE} (c : Cls X.K C) (n : NoAttr X.K C f) (hv : DE X W value rv) (ho : DE X W o ro) (hs : swapsWith value (some (.Attribute o f pos')) pos.line X.env = pure false := by rfl) :
    DS X W (.Assign [.Attribute o f pos'] value pos) (rSetF C f rv ro) := PS.imp (ps_fld ho hv hs) fun D σ H h => by
  obtain ⟨A, g, m, E, hm, hc, q, e⟩ := liftS_el h
  refine ⟨A, g, m, _, E.ex, hm, hc, q, fun c1 A1 m1 y H1 q1 st1 cv1 => ?_, e.ex⟩
  refine ⟨A1, g, m1, _, E.ex, st1.mem, hc.step hm st1, q1, fun c2 A2 m2 x H2 q2 st2 cv2 => ?_, e.ex.step st1⟩
  cases c1 with
  | l _ _ => exact q2.elim
  | p d =>
    cases c2 with
    | p _ => exact q2.elim
    | l nn i =>
      obtain ⟨a, lo, h1, rfl⟩ := cv2
      have q3 : match mget m2 nn i with
        | some (_, .ins C' fs) => C' = C ∧ fs.length < 1000 ∧ E.nx g (mset m2 nn i (.ins C (putD f d fs)))
        | _ => False := q2
      rw [h1] at q3
      cases lo with
      | ins C' fs =>
        obtain ⟨rfl, hl, q4⟩ := q3
        obtain ⟨dx, vs, hI, r⟩ := st2.mem.atI h1
        refine ⟨a, _, dx, vs, rfl, hI, c, n, by rw [r.length]; exact hl, ?_⟩
        have rd : Rep X.K A2 H2 y d := Rep.step st1.mem st2 cv1
        have st3 := Step.writeI (dx := dx) st2.mem h1 (RepF.put (f := f) rd r)
        have st := (st1.trans st2).trans st3
        exact e.nx _ A2 _ σ _ q4 st (hc.step hm st)
      | _ => exact q3.elim
/-! ### lists that change: methods -/
/-- receiver a list that may change: n, i its place; the arguments; what it becomes; the value -/
abbrev FM := List Dat → List Cv → (Cv → List Dat → Prop) → Prop
def onL (m : Mem) (co : Cv) (k : Nat → Nat → List Dat → Prop) : Prop := match co with
  | .l n i => match mget m n i with
    | some (_, .lst ds) => k n i ds
    | _ => False
  | _ => False
theorem onL_ok {m : Mem} {co : Cv} {k : Nat → Nat → List Dat → Prop} (h : onL m co k) : ∃ n i a ds, co = .l n i ∧ mget m n i = some (a, .lst ds) ∧ k n i ds := by
  cases co with
  | p _ => exact h.elim
  | l n i =>
    unfold onL at h
    cases e : mget m n i with
    | none => simp only [e] at h
    | some x =>
      obtain ⟨a, lo⟩ := x
      simp only [e] at h
      cases lo with
      | lst ds => exact ⟨n, i, a, ds, rfl, e, h⟩
      | _ => exact h.elim
/-- o.m(..), o a list that may change; F: the items, the arguments, what the list becomes and the value -/
abbrev FL := Mem → List Dat → List Cv → (List Dat → Dat → Prop) → Prop
def MlD (K : PySem.W.Frag) (r : V → List V → Hp → VK → Prop) (F : FL) : Prop := ∀ (H : Hp) (a : Addr) (vs xs : List V) (A : Addr → Prop) (m : Mem) (ds : List Dat) (cs : List Cv) (KK : List Dat → Dat → Prop) (Q : VK), MemOk K A H m → H a = some (.lst vs) → Reps K A H vs ds → CvsOk K A H m xs cs → F m ds cs KK →
  (∀ ds' d vs' z, KK ds' d → Reps K A H vs' ds' → Rep K A H z d → Q z (upd H a (.lst vs'))) → r (.ref a) xs H Q
def rMl (F : FL) (ro : RE) (ra : RA) : RE := fun g m K KE => ro g m (fun co m1 => onL m1 co fun _ _ _ => ra g m1 (fun cs m2 => onL m2 co fun n i ds => F m2 ds cs fun ds' d => K (.p d) (mset m2 n i (.lst ds'))) KE) KE
theorem ml_lift {r : V → List V → Hp → VK → Prop} {F : FL} (hF : MlD X.K r F) {ro : RE} {ra : RA} {σ : L2.St} {H : Hp} {Q : VK} (h : liftE X.K W (rMl F ro ra) σ H Q) : tBM X.K "list" r (liftE X.K W ro) (liftA X.K W ra) σ H Q := by
  obtain ⟨A, g, m, Kc, KE, hm, hc, q, k, ex⟩ := h
  refine ⟨A, g, m, _, KE, hm, hc, q, fun co A1 m1 x H1 q1 st1 cv1 => ?_, ex⟩
  obtain ⟨n, i, a, ds0, rfl, h1, q2⟩ := onL_ok q1
  obtain ⟨vs0, hv0, r0⟩ := st1.mem.atL h1
  obtain ⟨a', lo', h1', rfl⟩ := cv1
  rw [h1] at h1'; cases h1'
  refine ⟨.inl ⟨rfl, _, .inl (.inl hv0)⟩, A1, g, m1, _, KE, st1.mem, hc.step hm st1, q2, fun cs A2 m2 xs H2 q3 st2 cs2 => ?_, ex.step st1⟩
  obtain ⟨n', i', a2, ds, e, h2, q4⟩ := onL_ok q3
  cases e
  obtain ⟨a3, lo3, h3, e3⟩ := CvOk.step (v := .ref a) (c := .l n i) st1.mem st2 ⟨a, _, h1, rfl⟩
  cases e3
  rw [h2] at h3; cases h3
  obtain ⟨vs, hv, rr⟩ := st2.mem.atL h2
  exact hF H2 a vs xs A2 m2 ds cs _ Q st2.mem hv rr cs2 q4 fun ds' d vs' z kk r1 r2 => by
    have st3 := Step.writeL st2.mem h2 r1
    exact k _ A2 _ z _ kk ((st1.trans st2).trans st3) (Rep.step st2.mem st3 r2)
def appF : FL := fun _ ds cs KK => match cs with
  | [.p d] => ds.length < sizeLine ∧ KK (ds ++ [d]) .non
  | _ => False
theorem ml_app : MlD X.K rAppend appF := by
  intro H a vs xs A m ds cs KK Q hm hv r rc q k
  match cs, q, rc with
  | [.p d], q, .cons r1 .nil =>
    exact ⟨a, vs, _, rfl, rfl, hv, by rw [r.length]; exact q.1, k _ _ _ _ q.2 (r.append (.cons r1 .nil)) .non⟩
section
variable {o e : Expr} {es : List Expr} {ro : RE} {ra : RA} {apos cpos : Pos}
theorem d_app (ho : DE X W o ro) (ha : DA X W [e] ra) (hbase : attributeBase o "append" X.env (eval o X.env) = eval o X.env := by rfl)
    (hfew : ((backTo cpos (starEach [e] X.env)).all (fun x => !x.1) && (backToKw cpos (keywordEach [] X.env)).all (fun x => x.1.isSome)
      && decide (([e] : List Expr).length + ([] : List Keyword).length + (if ([] : List Keyword).isEmpty then 0 else 1) < 30)) = true := by rfl)
    (hline : (apos.endLine == cpos.line) = true := by rfl) (hs : starEach [e] X.env = (false, eval e X.env) :: starEach [] X.env := by rfl) (hplain : (backTo cpos (starEach [] X.env)).any (·.1) = false := by rfl) :
    DE X W (.Call (.Attribute o "append" apos) [e] [] cpos) (rMl appF ro ra) :=
  PE.imp (pe_bm PySem.F.plainAttrs_list PySem.F.slot_list_append PySem.F.type_list_append mt_append ho ha hbase hfew hline hs hplain) fun _ _ _ h => ml_lift ml_app h
end
/-! ### o.m(..), nothing changes -/
abbrev FT := Dat → List Dat → (Dat → Prop) → Prop
def MtD (K : PySem.W.Frag) (r : V → List V → Hp → VK → Prop) (F : FT) : Prop := ∀ (H : Hp) (x : V) (xs : List V) (A : Addr → Prop) (d : Dat) (ds : List Dat) (KK : Dat → Prop) (Q : VK), Al A H → RepW K A H x d → RepWs K A H xs ds → F d ds KK →
  (∀ d' z H', KK d' → SameH H H' → Rep K A H' z d' → Q z H') → r x xs H Q
def isStr : Dat → Prop
  | .str _ => True
  | _ => False
def isInt : Dat → Prop
  | .int _ => True
  | _ => False
def rMtS (F : FT) (ro : RE) (ra : RA) : RE := fun g m K KE => ro g m (fun co m1 => isStr (view m1 co) ∧ ra g m1 (fun cs m2 => F (view m2 co) (cs.map (view m2)) fun d => K (.p d) m2) KE) KE
theorem mtS_lift {r : V → List V → Hp → VK → Prop} {F : FT} (hF : MtD X.K r F) {ro : RE} {ra : RA} {σ : L2.St} {H : Hp} {Q : VK} (h : liftE X.K W (rMtS F ro ra) σ H Q) : tBM X.K "str" r (liftE X.K W ro) (liftA X.K W ra) σ H Q := by
  obtain ⟨A, g, m, Kc, KE, hm, hc, q, k, ex⟩ := h
  refine ⟨A, g, m, _, KE, hm, hc, q, fun co A1 m1 x H1 q1 st1 cv1 => ?_, ex⟩
  obtain ⟨q1, q2⟩ := q1
  have w := cv1.w st1.mem
  refine ⟨?_, A1, g, m1, _, KE, st1.mem, hc.step hm st1, q2, fun cs A2 m2 xs H2 q3 st2 cs2 => ?_, ex.step st1⟩
  · cases e : view m1 co with
    | str y => rw [e] at w; cases w.str; exact rfl
    | _ => rw [e] at q1; exact q1.elim
  · exact hF H2 x xs A2 _ _ _ Q st2.mem.al ((cv1.step st1.mem st2).w st2.mem) (CvsOk.w st2.mem cs2) q3 fun d z H' kk sm rp => k _ A2 m2 z H' kk ((st1.trans st2).trans (.same st2.mem sm)) rp
/-! ### built-in functions -/
def rCB (F : FC) (ra : RA) : RE := fun g m K KE => ra g m (fun cs m1 => F (cs.map (view m1)) fun d => K (.p d) m1) KE
def rDC (K : PySem.W.Frag) (F : FC) : List V → Hp → VK → Prop := fun xs H Q => ∃ (A : Addr → Prop) (ds : List Dat) (KK : Dat → Prop), Al A H ∧ RepWs K A H xs ds ∧ F ds KK ∧ ∀ d' z H', KK d' → SameH H H' → Rep K A H' z d' → Q z H'
theorem CallD.to {f : Value} {F : FC} (h : CallD X f F) : CallR X f (rDC X.K F) := fun pins s σ H xs us Q I r ⟨A, ds, KK, al, w, q, k⟩ => h pins s σ H xs us A ds KK Q I r al w q k
theorem cb_lift {F : FC} {ra : RA} {σ : L2.St} {H : Hp} {Q : VK} (h : liftE X.K W (rCB F ra) σ H Q) : tCB (rDC X.K F) (liftA X.K W ra) σ H Q := by
  obtain ⟨A, g, m, Kc, KE, hm, hc, q, k, ex⟩ := h
  refine ⟨A, g, m, _, KE, hm, hc, q, fun cs A1 m1 xs H1 q1 st1 cs1 => ?_, ex⟩
  exact ⟨A1, _, _, st1.mem.al, CvsOk.w st1.mem cs1, q1, fun d z H' kk sm rp => k _ A1 m1 z H' kk (st1.trans (.same st1.mem sm)) rp⟩
section
variable {x : Str} {p : Pos} {e : Expr} {es : List Expr} {ra : RA} {id T : String} {F : FC}
theorem d_callB (hc : CallD X (.builtin id) F) (hg : Gl X x) (hm : X.mg x = none) (hv : bootBuiltins x = some (.builtin id)) (ha : DA X W (e :: es) ra) (hn : x ≠ "__name__" := by decide) (hdb : (x == ("__debug__" : Str)) = false := by decide)
    (he : starEach (e :: es) X.env = (false, eval e X.env) :: starEach es X.env := by rfl) (hpl : (backTo pos (starEach es X.env)).any (·.1) = false := by rfl) : DE X W (.Call (.Name x p) (e :: es) [] pos) (rCB F ra) :=
  PE.imp (pe_callB hc.to hg hm hv ha hn hdb he hpl) fun _ _ _ h => cb_lift h
theorem d_callTy (hc : CallD X (.type T) F) (hg : Gl X x) (hm : X.mg x = none) (hv : bootBuiltins x = some (.type T)) (ha : DA X W (e :: es) ra) (hn : x ≠ "__name__" := by decide) (hdb : (x == ("__debug__" : Str)) = false := by decide)
    (he : starEach (e :: es) X.env = (false, eval e X.env) :: starEach es X.env := by rfl) (hpl : (backTo pos (starEach es X.env)).any (·.1) = false := by rfl) : DE X W (.Call (.Name x p) (e :: es) [] pos) (rCB F ra) :=
  PE.imp (pe_callTy hc.to hg hm hv ha hn hdb he hpl) fun _ _ _ h => cb_lift h
end
/-! ### a[b] -/
def R2D (K : PySem.W.Frag) (r : R2) (F : F2) : Prop := ∀ (H : Hp) (x y : V) (A : Addr → Prop) (d e : Dat) (KK : Dat → Prop) (Q : VK), Al A H → RepW K A H x d → RepW K A H y e → F d e KK → (∀ d' z H', KK d' → SameH H H' → Rep K A H' z d' → Q z H') → r x y H Q
theorem op_lift {r : R2} {F : F2} (hF : R2D X.K r F) {ra rb : RE} {σ : L2.St} {H : Hp} {Q : VK} (h : liftE X.K W (rOp F ra rb) σ H Q) : tOp r (liftE X.K W ra) (liftE X.K W rb) σ H Q := by
  obtain ⟨A, g, m, Kc, KE, hm, hc, q, k, ex⟩ := h
  refine ⟨A, g, m, _, KE, hm, hc, q, fun c1 A1 m1 x H1 q1 st1 cv1 => ?_, ex⟩
  refine ⟨A1, g, m1, _, KE, st1.mem, hc.step hm st1, q1, fun c2 A2 m2 y H2 q2 st2 cv2 => ?_, ex.step st1⟩
  exact hF H2 x y A2 _ _ _ Q st2.mem.al ((cv1.step st1.mem st2).w st2.mem) (cv2.w st2.mem) q2 fun d z H' kk sm rp => k _ A2 m2 z H' kk ((st1.trans st2).trans (.same st2.mem sm)) rp
theorem SameH.refl (H : Hp) : SameH H H := fun _ _ e => e
def ixF : F2 := fun d e K => match d, e with
  | .tup ds, .int i => (match atI ds i with | some x => K x | none => False)
  | .lst ds, .int i => (match atI ds i with | some x => K x | none => False)
  | .scr ds, .int i => (match atI ds i with | some x => K x | none => False)
  | .str x, .int i => x.length ≤ sizeLine ∧ (match atI x.cps.toList i with | some c => K (.str ⟨#[c]⟩) | none => False)
  | _, _ => False
theorem Reps.atI {K : PySem.W.Frag} {A : Addr → Prop} {H : Hp} {vs : List V} {ds : List Dat} {i : Int} {d : Dat} (r : Reps K A H vs ds) (h : atI ds i = some d) : ∃ v, atI vs i = some v ∧ Rep K A H v d := by
  unfold L2.atI at h ⊢
  rw [r.length]
  cases e : ixN ds.length i with
  | none => rw [e] at h; cases h
  | some j => rw [e] at h; exact r.get h
theorem ix_dat : R2D X.K (rIx X.K) ixF := by
  intro H x y A d e KK Q al wx wy q k
  unfold ixF at q
  split at q
  · cases wy.int
    obtain ⟨a, vs, rfl, h, r⟩ := wx.tup
    split at q
    · rename_i z hz
      obtain ⟨v, h1, h2⟩ := r.atI hz
      exact .inr (.inl ⟨a, vs, _, v, rfl, rfl, h, h1, k _ _ _ q (.refl H) h2⟩)
    · exact q.elim
  · cases wy.int
    obtain ⟨a, vs, rfl, h, r⟩ := wx.seq
    split at q
    · rename_i z hz
      obtain ⟨v, h1, h2⟩ := r.atI hz
      exact .inl ⟨a, vs, _, v, rfl, rfl, h, h1, k _ _ _ q (.refl H) h2⟩
    · exact q.elim
  · cases wy.int
    obtain ⟨a, vs, rfl, h, r⟩ := wx.scr
    split at q
    · rename_i z hz
      obtain ⟨v, h1, h2⟩ := r.atI hz
      exact .inl ⟨a, vs, _, v, rfl, rfl, h, h1, k _ _ _ q (.refl H) h2⟩
    · exact q.elim
  · cases wy.int
    cases wx.str
    obtain ⟨hz, q⟩ := q
    split at q
    · rename_i z hz'
      exact .inr (.inr ⟨_, _, z, rfl, rfl, hz, hz', k _ _ _ q (.refl H) (.str _)⟩)
    · exact q.elim
  · exact q.elim
theorem d_ix {a b : Expr} {ra rb : RE} (ha : DE X W a ra) (hb : DE X W b rb) (hs : PlainIx b := by exact fun _ _ => rfl) : DE X W (.Subscript a b pos) (rOp ixF ra rb) := PE.imp (pe_ix ix_seq ha hb hs) fun _ _ _ h => op_lift ix_dat h
/-! ### o[i] = v -/
def rgSub (ro ri : RE) : RG := fun c g m K => ro g m (fun co m1 => ri g m1 (fun ci m2 => onL m2 co fun n i ds => match c, view m2 ci with
  | .p d, .int k => (match ixN ds.length k with | some j => K g (mset m2 n i (.lst (ds.set j d))) | none => False)
  | _, _ => False) KE0) KE0
theorem dg_sub {ix : List Nat} {o i : Expr} {ro ri : RE} (ho : DE X W0 o ro) (hi : DE X W0 i ri) (ha : ∀ v, assign (.Subscript o i pos) X.env v = (do
      let ov ← holding [v] (eval o X.env)
      let iv ← holding [v, ov] (eval i X.env)
      standAt pos
      holding [v, ov, iv] (setItem ov iv v)
      release [v, ov, iv] []) := by intro _; rfl) : DG X ix (.Subscript o i pos) (rgSub ro ri) := PG.imp (pg_sub ho hi set_list ha) fun v σ H Q ⟨A, g, m, c, Kg, hm, hc, cv, q, k⟩ => by
  refine ⟨A, g, m, _, KE0, hm, hc, q, fun co A1 m1 x H1 q1 st1 cv1 => ?_, exTo0⟩
  refine ⟨A1, g, m1, _, KE0, st1.mem, hc.step hm st1, q1, fun ci A2 m2 y H2 q2 st2 cv2 => ?_, exTo0⟩
  obtain ⟨n, i, a, ds, rfl, h1, q3⟩ := onL_ok q2
  obtain ⟨a', lo', h1', rfl⟩ := CvOk.step st1.mem st2 cv1
  rw [h1] at h1'; cases h1'
  have w := cv2.w st2.mem
  cases c with
  | l _ _ => exact q3.elim
  | p d =>
  cases e : view m2 ci with
  | int kk =>
    rw [e] at q3 w
    cases w.int
    cases e2 : ixN ds.length kk with
    | none => simp only [e2] at q3
    | some j =>
      simp only [e2] at q3
      obtain ⟨vs, hv, rr⟩ := st2.mem.atL h1
      refine ⟨a, vs, kk, j, rfl, rfl, hv, by rw [rr.length]; exact e2, ?_⟩
      have rv : Rep X.K A2 H2 v d := Rep.step st1.mem st2 (Rep.step hm st1 cv)
      have st3 := Step.writeL st2.mem h1 (rr.set rv j)
      have st := (st1.trans st2).trans st3
      exact k _ A2 _ σ _ q3 st (hc.step hm st) (.refl _ _)
  | _ => rw [e] at q3; exact q3.elim
/-! ### pairs of names -/
def rPar (i j : Nat) (ra : RA) : RS := fun E g m => ra g m (fun cs m1 => match cs with
  | [a, b] => E.nx (put (put g i (some a)) j (some b)) m1
  | _ => False) E.ex
def rPar3 (i j l : Nat) (ra : RA) : RS := fun E g m => ra g m (fun cs m1 => match cs with
  | [a, b, c] => E.nx (put (put (put g i (some a)) j (some b)) l (some c)) m1
  | _ => False) E.ex
theorem ds_par {i j : Nat} {x y : Str} {a b : Expr} {ra : RA} {px py pt : Pos} {kt k2 pt2} (hc : X.calm = true) (hN : X.N.Nodup) (ha : DA X W [a, b] ra) (hi : X.N[i]? = some x := by rfl) (hj : X.N[j]? = some y := by rfl) (hij : i ≠ j := by decide)
    (hx : X.env.scope.names.lookup x = some .local := by rfl) (hy : X.env.scope.names.lookup y = some .local := by rfl)
    (hw : swappedStores [.Tuple [.Name x px, .Name y py] kt pt] (.Tuple [a, b] k2 pt2) X.env = pure (some [x, y]) := by rfl)
    (hs : swapsWithSole [.Tuple [.Name x px, .Name y py] kt pt] (.Tuple [a, b] k2 pt2) pos.line X.env = pure false := by rfl) :
    DS X W (.Assign [.Tuple [.Name x px, .Name y py] kt pt] (.Tuple [a, b] k2 pt2) pos) (rPar i j ra) := PS.imp (ps_par hc hN hi hj hij hx hy ha hw hs) fun D σ H h => by
  obtain ⟨A, g, m, E, hm, hcl, q, e⟩ := liftS_el h
  refine ⟨A, g, m, _, E.ex, hm, hcl, q, fun cs A1 m1 xs H1 q1 st1 cs1 => ?_, e.ex⟩
  match cs, q1, cs1 with
  | [a, b], q1, .cons r1 (.cons r2 .nil) => exact ⟨_, _, rfl, e.nx _ A1 m1 _ H1 q1 st1 (((hcl.step hm st1).put i r1).put j r2)⟩
theorem ds_par3 {i j l : Nat} {x y z : Str} {a b c : Expr} {ra : RA} {px py pz pt : Pos} {kt k2 pt2} (hc : X.calm = true) (hN : X.N.Nodup) (ha : DA X W [a, b, c] ra) (hi : X.N[i]? = some x := by rfl) (hj : X.N[j]? = some y := by rfl) (hl : X.N[l]? = some z := by rfl)
    (hij : i ≠ j := by decide) (hil : i ≠ l := by decide) (hjl : j ≠ l := by decide) (hx : X.env.scope.names.lookup x = some .local := by rfl) (hy : X.env.scope.names.lookup y = some .local := by rfl) (hz : X.env.scope.names.lookup z = some .local := by rfl)
    (hw : swappedStores [.Tuple [.Name x px, .Name y py, .Name z pz] kt pt] (.Tuple [a, b, c] k2 pt2) X.env = pure (some [x, y, z]) := by rfl)
    (hs : swapsWithSole [.Tuple [.Name x px, .Name y py, .Name z pz] kt pt] (.Tuple [a, b, c] k2 pt2) pos.line X.env = pure false := by rfl) :
    DS X W (.Assign [.Tuple [.Name x px, .Name y py, .Name z pz] kt pt] (.Tuple [a, b, c] k2 pt2) pos) (rPar3 i j l ra) := PS.imp (ps_par3 hc hN hi hj hl hij hil hjl hx hy hz ha hw hs) fun D σ H h => by
  obtain ⟨A, g, m, E, hm, hcl, q, e⟩ := liftS_el h
  refine ⟨A, g, m, _, E.ex, hm, hcl, q, fun cs A1 m1 xs H1 q1 st1 cs1 => ?_, e.ex⟩
  match cs, q1, cs1 with
  | [a, b, c], q1, .cons r1 (.cons r2 (.cons r3 .nil)) => exact ⟨_, _, _, rfl, e.nx _ A1 m1 _ H1 q1 st1 ((((hcl.step hm st1).put i r1).put j r2).put l r3)⟩
end
end DL
/-! DL7: calls of defs, of classes, of methods of all kinds; properties; class constants. -/
namespace DL
open PySem PySem.Spec PyProof.Rows L2
section
variable {X : Cx} {W : WX} {pos : Pos}
/-! ### the arguments of a call -/
abbrev RK := G → Mem → (List Cv → List Cv → Mem → Prop) → XC → Prop
def KeepP (X : Cx) (fv : Value) (P : Heap → Prop) : Prop := ∀ h, P h → ∃ k, (k = Keeper.frame ∨ k = Keeper.machine ∨ k = Keeper.boundFrame) ∧ PySem.W.Looks (model X.prog X.w) h (keeperOf fv) k
/-- the arguments es, kws (names kn) are worked out, then f is called -/
structure AF (X : Cx) (W : WX) (es : List Expr) (kws : List Keyword) (kn : List Str) (r : RK) : Prop where
  run : ∀ (pos : Pos) (pins : List (Addr × Obj)) (s : Shared) (σ : L2.St) (H : Hp) (A : Addr → Prop) (g : G) (m : Mem) (Kc : List Cv → List Cv → Mem → Prop) (KE : XC) (fv : Value) (fst : List Value) (P : Heap → Prop) (Q : Value → Shared → Prop),
    KeepP X fv P → Inv X pins σ H s → MemOk X.K A H m → CellsOk X.K A H σ g m → r g m Kc KE → ExTo X.K W A m H KE →
    (∀ us ws s1 vs zs H1 A1 m1 cs ks, Inv X pins σ H1 s1 → Vals vs us → Vals zs ws → ws.length = kn.length → Step X.K A m H A1 m1 H1 → CvsOk X.K A1 H1 m1 vs cs → CvsOk X.K A1 H1 m1 zs ks → Kc cs ks m1 →
      P s1.heap ∧ wpAny (model X.prog X.w) X.A (call fv (fst ++ us) (kn.zip ws)) Q X.xe s1) →
    wpAny (model X.prog X.w) X.A (callWith pos fv fst (backTo pos (starEach es X.env)) (backToKw pos (keywordEach kws X.env))) Q X.xe s
/-- keyword arguments from the left -/
structure DK (X : Cx) (W : WX) (kws : List Keyword) (r : RA) : Prop where
  run : ∀ (pos : Pos) (pins : List (Addr × Obj)) (s : Shared) (σ : L2.St) (H : Hp) (A : Addr → Prop) (g : G) (m : Mem) (Kc : List Cv → Mem → Prop) (KE : XC), Inv X pins σ H s → MemOk X.K A H m → CellsOk X.K A H σ g m → r g m Kc KE → ExTo X.K W A m H KE →
    wpAny (model X.prog X.w) X.A (evalAll ((backToKw pos (keywordEach kws X.env)).map (·.2))) (fun us s1 => ∃ vs H1 A1 m1 cs, us.length = kws.length ∧ Inv X pins σ H1 s1 ∧ Vals vs us ∧ Step X.K A m H A1 m1 H1 ∧ CvsOk X.K A1 H1 m1 vs cs ∧ Kc cs m1) X.xe s
theorem dk_nil : DK X W [] rNil := ⟨fun pos pins s σ H A g m Kc KE I hm hc q ex => wpAny_evalAll_nil ⟨[], H, A, m, [], rfl, I, .nil, .refl hm, .nil, q⟩⟩
theorem dk_cons {nm : Option Str} {e : Expr} {kpos : Pos} {kws : List Keyword} {ra : RE} {rr : RA} (ha : DE X W e ra) (hr : DK X W kws rr) : DK X W (⟨nm, e, kpos⟩ :: kws) (rCons ra rr) := by
  refine ⟨fun pos pins s σ H A g m Kc KE I hm hc q ex => ?_⟩
  show wpAny _ _ (evalAll ((do let v ← eval e X.env; standAt pos; pure v) :: (backToKw pos (keywordEach kws X.env)).map (·.2))) _ _ s
  refine wpAny_evalAll_cons (wpAny_bind (thn (DE.go ha I hm hc q ex) fun u s1 ⟨x, H1, A1, m1, c, I1, r1, st1, cv1, q1⟩ => wpAny_bind (wpAny_standAt (wpAny_pure ?_))))
  refine thn (hr.run pos pins s1 σ H1 A1 g m1 _ _ I1 st1.mem (hc.step hm st1) q1 (ex.step st1)) fun us s2 ⟨xs, H2, A2, m2, cs, hl, I2, r2, st2, cv2, q2⟩ => ?_
  exact ⟨x :: xs, H2, A2, m2, c :: cs, congrArg Nat.succ hl, I2, .cons r1 r2, st1.trans st2, .cons (cv1.step st1.mem st2) cv2, q2⟩
theorem CvsOk.step {K : PySem.W.Frag} {A A' : Addr → Prop} {m m' : Mem} {H H' : Hp} (h : MemOk K A H m) (s : Step K A m H A' m' H') : ∀ {vs : List V} {cs : List Cv}, CvsOk K A H m vs cs → CvsOk K A' H' m' vs cs
  | _, _, .nil => .nil
  | _, _, .cons r t => .cons (CvOk.step h s r) (CvsOk.step h s t)
/-- f() -/
def rA0 : RK := fun _ m K _ => K [] [] m
theorem af0 : AF X W [] [] [] rA0 := ⟨fun pos pins s σ H A g m Kc KE fv fst P Q kp I hm hc q ex k => by
  obtain ⟨h1, h2⟩ := k [] [] s [] [] H A m [] [] I .nil .nil rfl (.refl hm) .nil .nil q
  exact PySem.W.callWith_of rfl kp (evalArgs_nil3 ⟨h1, h2⟩)⟩
/-- f(e, ..) -/
def rA1 (ra : RA) : RK := fun g m K KE => ra g m (fun cs m1 => K cs [] m1) KE
theorem af {e : Expr} {es : List Expr} {ra : RA} (ha : DA X W (e :: es) ra) (he : starEach (e :: es) X.env = (false, eval e X.env) :: starEach es X.env := by rfl) (hpl : ∀ pos, (backTo pos (starEach es X.env)).any (·.1) = false := by intro _; rfl) : AF X W (e :: es) [] [] (rA1 ra) :=
  ⟨fun pos pins s σ H A g m Kc KE fv fst P Q kp I hm hc q ex k => by
    have h := DA.go ha pos I hm hc q ex
    rw [he] at h ⊢
    refine PySem.W.callWith_of (P := P) (by show ((false || (backTo pos (starEach es X.env)).any (·.1)) || false) = false; rw [hpl]; rfl) kp (Calls.evalArgs_plain (thn h fun us s1 ⟨vs, H1, A1, m1, cs, I1, rv, st, cv, kc⟩ => ?_))
    exact k us [] s1 vs [] H1 A1 m1 cs [] I1 rv .nil rfl st cv .nil kc⟩
/-- f(k = v, ..) -/
def rAK0 (rk : RA) : RK := fun g m K KE => rk g m (fun ks m1 => K [] ks m1) KE
theorem afk0 {kws : List Keyword} {kn : List Str} {rk : RA} (hk : DK X W kws rk) (hall : ∀ pos, (backToKw pos (keywordEach kws X.env)).all (·.1.isSome) = true := by intro _; rfl) (hks : ∀ pos, (backToKw pos (keywordEach kws X.env)).filterMap (·.1) = kn := by intro _; rfl)
    (hl : kws.length = kn.length := by rfl) (hpl : ∀ pos, ((backTo pos (starEach [] X.env)).any (·.1) || (backToKw pos (keywordEach kws X.env)).any (·.1.isNone)) = false := by intro _; rfl) : AF X W [] kws kn (rAK0 rk) :=
  ⟨fun pos pins s σ H A g m Kc KE fv fst P Q kp I hm hc q ex k => by
    refine PySem.W.callWith_of (P := P) (hpl pos) kp (evalArgs_kw2_nil (hall pos) (thn (hk.run pos pins s σ H A g m _ _ I hm hc q ex) fun ws s1 ⟨zs, H1, A1, m1, ks, hlw, I1, rv, st, cv, kc⟩ => ?_))
    rw [hks]
    exact k [] ws s1 [] zs H1 A1 m1 [] ks I1 .nil rv (hlw.trans hl) st .nil cv kc⟩
/-- f(e, .., k = v, ..) -/
def rAK (ra rk : RA) : RK := fun g m K KE => ra g m (fun cs m1 => rk g m1 (fun ks m2 => K cs ks m2) KE) KE
theorem afk {e : Expr} {es : List Expr} {kws : List Keyword} {kn : List Str} {ra rk : RA} (ha : DA X W (e :: es) ra) (hk : DK X W kws rk) (hall : ∀ pos, (backToKw pos (keywordEach kws X.env)).all (·.1.isSome) = true := by intro _; rfl)
    (hks : ∀ pos, (backToKw pos (keywordEach kws X.env)).filterMap (·.1) = kn := by intro _; rfl) (hl : kws.length = kn.length := by rfl) (he : starEach (e :: es) X.env = (false, eval e X.env) :: starEach es X.env := by rfl)
    (hpl : ∀ pos, ((backTo pos (starEach (e :: es) X.env)).any (·.1) || (backToKw pos (keywordEach kws X.env)).any (·.1.isNone)) = false := by intro _; rfl) : AF X W (e :: es) kws kn (rAK ra rk) :=
  ⟨fun pos pins s σ H A g m Kc KE fv fst P Q kp I hm hc q ex k => by
    refine PySem.W.callWith_of (P := P) (hpl pos) kp (evalArgs_kw2 (hall pos) (thn (DA.go ha pos I hm hc q ex) fun us s1 ⟨vs, H1, A1, m1, cs, I1, rv, st1, cv1, kc1⟩ => ?_) he)
    refine thn (hk.run pos pins s1 σ H1 A1 g m1 _ _ I1 st1.mem (hc.step hm st1) kc1 (ex.step st1)) fun ws s2 ⟨zs, H2, A2, m2, ks, hlw, I2, rz, st2, cv2, kc2⟩ => ?_
    rw [hks]
    exact k us ws s2 vs zs H2 A2 m2 cs ks I2 rv rz (hlw.trans hl) (st1.trans st2) (CvsOk.step st1.mem st2 cv1) cv2 kc2⟩
/-! ### *e -/
def starD : Dat → (List Dat → Prop) → Prop
  | .tup ds, K => K ds
  | .lst ds, K => K ds
  | _, _ => False
def rStar (ra : RE) (rr : RA) : RA := fun g m K KE => ra g m (fun c m1 => starD (view m1 c) fun ds => rr g m1 (fun cs m2 => K (ds.map .p ++ cs) m2) KE) KE
theorem cvs_of_reps {K : PySem.W.Frag} {A : Addr → Prop} {H : Hp} {m : Mem} : ∀ {vs : List V} {ds : List Dat}, Reps K A H vs ds → CvsOk K A H m vs (ds.map .p)
  | _, _, .nil => .nil
  | _, _, .cons r t => .cons r (cvs_of_reps t)
theorem CvsOk.append {K : PySem.W.Frag} {A : Addr → Prop} {H : Hp} {m : Mem} : ∀ {vs ws : List V} {cs ds : List Cv}, CvsOk K A H m vs cs → CvsOk K A H m ws ds → CvsOk K A H m (vs ++ ws) (cs ++ ds)
  | _, _, _, _, .nil, s => s
  | _, _, _, _, .cons r t, s => .cons r (CvsOk.append t s)
theorem da_star {e : Expr} {es : List Expr} {ra : RE} {rr : RA} {p : Pos} (ha : DE X W e ra) (hr : DA X W es rr) (hs : starEach (.Starred e p :: es) X.env = (true, eval e X.env) :: starEach es X.env := by rfl) : DA X W (.Starred e p :: es) (rStar ra rr) := by
  refine PA.imp (StX.pa_star ha hr hs) fun σ H Q ⟨A, g, m, Kc, KE, hm, hc, q, k, ex⟩ => ?_
  refine ⟨A, g, m, _, KE, hm, hc, q, fun c A1 m1 x H1 q1 st1 cv1 => ?_, ex⟩
  have w := cv1.w st1.mem
  cases e1 : view m1 c with
  | tup ds =>
    rw [e1] at q1 w
    obtain ⟨a, vs, rfl, h, r⟩ := w.tup
    refine ⟨a, vs, rfl, .inl h, A1, g, m1, _, KE, st1.mem, hc.step hm st1, q1, fun cs A2 m2 xs H2 q2 st2 cv2 => ?_, ex.step st1⟩
    exact k _ A2 m2 _ H2 q2 (st1.trans st2) (CvsOk.append (cvs_of_reps (r.step st1.mem st2)) cv2)
  | lst ds =>
    rw [e1] at q1 w
    obtain ⟨a, vs, rfl, h, r⟩ := w.seq
    refine ⟨a, vs, rfl, .inr h, A1, g, m1, _, KE, st1.mem, hc.step hm st1, q1, fun cs A2 m2 xs H2 q2 st2 cv2 => ?_, ex.step st1⟩
    exact k _ A2 m2 _ H2 q2 (st1.trans st2) (CvsOk.append (cvs_of_reps (r.step st1.mem st2)) cv2)
  | _ => rw [e1] at q1; exact q1.elim
theorem star_dat {pins : List (Addr × Obj)} {σ : L2.St} {H : Hp} {s : Shared} {A : Addr → Prop} {v : V} {u : Value} {d : Dat} {KK : List Dat → Prop} {Q : List Value → Shared → Prop} {E : Value → Shared → Prop} (I : Inv X pins σ H s) (rv : RelV v u) (w : RepW X.K A H v d)
    (q : starD d KK) (k : ∀ us vs ds s', KK ds → Inv X pins σ H s' → Vals vs us → Reps X.K A H vs ds → Q us s') : PySem.W.StarOf (model X.prog X.w) X.A E u Q s := by
  cases d with
  | tup ds =>
    obtain ⟨a, vs, rfl, h, r⟩ := w.tup
    cases rv
    exact StX.star_any I (.inl h) fun us s' I' r' => k us vs ds s' q I' r' r
  | lst ds =>
    obtain ⟨a, vs, rfl, h, r⟩ := w.seq
    cases rv
    exact StX.star_any I (.inr h) fun us s' I' r' => k us vs ds s' q I' r' r
  | _ => exact q.elim
/-- f( *e) -/
def rAS (re : RE) : RK := fun g m K KE => re g m (fun c m1 => starD (view m1 c) fun ds => K (ds.map .p) [] m1) KE
theorem afs {e : Expr} {p : Pos} {re : RE} (he : DE X W e re) (hst : starEach [.Starred e p] X.env = [(true, eval e X.env)] := by rfl) : AF X W [.Starred e p] [] [] (rAS re) :=
  ⟨fun pos pins s σ H A g m Kc KE fv fst P Q kp I hm hc q ex k => by
    rw [hst]
    refine PySem.W.ks_call (P := P) rfl kp (PySem.W.ks_lone (thn (DE.go he I hm hc q ex) fun u s1 ⟨x, H1, A1, m1, c, I1, rx, st1, cv1, q1⟩ => ?_))
    exact star_dat (KK := fun ds => Kc (ds.map .p) [] m1) I1 rx (cv1.w st1.mem) q1 fun us vs ds s' kk I' rv r =>
      k us [] s' vs [] H1 A1 m1 _ [] I' rv .nil rfl st1 (cvs_of_reps r) .nil kk⟩
/-- f(e, .., *e') -/
theorem afs2 {e : Expr} {es : List Expr} {ra : RA} (ha : DA X W (e :: es) ra) (he : starEach (e :: es) X.env = (false, eval e X.env) :: starEach es X.env := by rfl) (hst : ∀ pos, (backTo pos (starEach es X.env)).any (·.1) = true := by intro _; rfl) : AF X W (e :: es) [] [] (rA1 ra) :=
  ⟨fun pos pins s σ H A g m Kc KE fv fst P Q kp I hm hc q ex k => by
    have h := DA.go ha pos I hm hc q ex
    rw [he] at h ⊢
    refine PySem.W.ks_call (P := P) (by show (false || (backTo pos (starEach es X.env)).any (·.1)) = true; rw [hst]; rfl) kp (Calls.evalArgs_plain (thn h fun us s1 ⟨vs, H1, A1, m1, cs, I1, rv, st, cv, kc⟩ => ?_))
    exact k us [] s1 vs [] H1 A1 m1 cs [] I1 rv .nil rfl st cv .nil kc⟩
end
end DL
/-! DL8: what is called. -/
namespace DL
open PySem PySem.Spec PyProof.Rows L2
/-- how a call with n positional values and the keywords kn binds; gC: the cells in the parameters' order -/
structure BindD (K : PySem.W.Frag) (fd : FuncData) (ps : List Str) (n : Nat) (kn : List Str) (gC : List Cv → List Cv → List Cv) : Prop where
  ex : ∃ (g : List Value → List Value → List Value) (gV : List V → List V → List V), (∀ (s : Shared) (us ws : List Value), K.In s.heap → us.length = n → ws.length = kn.length → BindsTo s fd ⟨us, kn.zip ws⟩ (ps.zip (g us ws))) ∧
    (∀ vs us zs ws, Vals vs us → Vals zs ws → Vals (gV vs zs) (g us ws)) ∧
    ∀ (A : Addr → Prop) (H : Hp) (m : Mem) vs cs zs ks, CvsOk K A H m vs cs → CvsOk K A H m zs ks → CvsOk K A H m (gV vs zs) (gC cs ks)
section
variable {K : PySem.W.Frag} {x qual : Str} {params : Arguments} {body : List Stmt} {scope : Scope} {dvs : List V} {kws : List (Str × V)} {f : Addr} {fd : FuncData} {ps : List Str}
/-- every parameter by position -/
theorem BindD.pos (F : FunD K x qual params body scope [] kws f fd) (n : Nat)
    (h : ∀ (kV doc pm : Value) (an : Option Addr) (cdv ct : Value) (us : List Value), us.length = n → bindArgs (PySem.W.fnOf x qual params body scope .none kV doc pm an cdv ct) ⟨us, []⟩ = pure (ps.zip us)) : BindD K fd ps n [] fun cs _ => cs := by
  obtain ⟨oc, od, dV, kV, doc, pm, an, cdv, ct, osl, rfl, lk, hcd, hD, hK⟩ := F.ex
  rcases hD with ⟨_, rfl⟩ | ⟨e, _⟩
  · exact ⟨fun us _ => us, fun vs _ => vs, fun s us ws _ hl _ => .of_eq (h kV doc pm an cdv ct us hl), fun _ _ _ _ r _ => r, fun _ _ _ _ _ _ _ r _ => r⟩
  · exact absurd rfl e
/-- n by position, the others by keyword, in their order -/
theorem BindD.key (F : FunD K x qual params body scope [] kws f fd) (n : Nat) (kn : List Str)
    (h : ∀ (kV doc pm : Value) (an : Option Addr) (cdv ct : Value) (us ws : List Value), us.length = n → ws.length = kn.length → bindArgs (PySem.W.fnOf x qual params body scope .none kV doc pm an cdv ct) ⟨us, kn.zip ws⟩ = pure (ps.zip (us ++ ws))) : BindD K fd ps n kn fun cs ks => cs ++ ks := by
  obtain ⟨oc, od, dV, kV, doc, pm, an, cdv, ct, osl, rfl, lk, hcd, hD, hK⟩ := F.ex
  rcases hD with ⟨_, rfl⟩ | ⟨e, _⟩
  · exact ⟨fun us ws => us ++ ws, fun vs zs => vs ++ zs, fun s us ws _ hl hw => .of_eq (h kV doc pm an cdv ct us ws hl hw), fun _ _ _ _ r r2 => r.append r2, fun _ _ _ _ _ _ _ r r2 => CvsOk.append r r2⟩
  · exact absurd rfl e
/-- .. in an order of its own -/
theorem BindD.keyG (F : FunD K x qual params body scope [] kws f fd) (n : Nat) (kn : List Str) (g : {α : Type} → List α → List α → List α) (hg : ∀ {α β : Type} {R : α → β → Prop} {xs zs : List α} {ys ws : List β}, Paired R xs ys → Paired R zs ws → Paired R (g xs zs) (g ys ws))
    (h : ∀ (kV doc pm : Value) (an : Option Addr) (cdv ct : Value) (us ws : List Value), us.length = n → ws.length = kn.length → bindArgs (PySem.W.fnOf x qual params body scope .none kV doc pm an cdv ct) ⟨us, kn.zip ws⟩ = pure (ps.zip (g us ws))) : BindD K fd ps n kn fun cs ks => g cs ks := by
  obtain ⟨oc, od, dV, kV, doc, pm, an, cdv, ct, osl, rfl, lk, hcd, hD, hK⟩ := F.ex
  rcases hD with ⟨_, rfl⟩ | ⟨e, _⟩
  · exact ⟨fun us ws => g us ws, fun vs zs => g vs zs, fun s us ws _ hl hw => .of_eq (h kV doc pm an cdv ct us ws hl hw), fun _ _ _ _ r r2 => hg r r2, fun _ _ _ _ _ _ _ r r2 => hg r r2⟩
  · exact absurd rfl e
/-- n by position, those named kn by keyword, behind them the defaults from the j-th on -/
theorem BindD.dfl {dd : List Dat} (F : FunD K x qual params body scope dvs kws f fd) (n : Nat) (kn : List Str) (j : Nat) (hd : dvs ≠ []) (hdd : ∀ A H, Reps K A H (dvs.drop j) dd)
    (h : ∀ (T : Addr) (kV doc pm : Value) (an : Option Addr) (cdv ct : Value) (us ws its : List Value), us.length = n → ws.length = kn.length → its.length = dvs.length →
      ∃ k, bindArgs (PySem.W.fnOf x qual params body scope (.ref T) kV doc pm an cdv ct) ⟨us, kn.zip ws⟩ = seqItems? (.ref T) >>= k ∧ k (some its.toArray) = pure (ps.zip (us ++ ws ++ its.drop j))) : BindD K fd ps n kn fun cs ks => cs ++ ks ++ dd.map .p := by
  obtain ⟨oc, od, dV, kV, doc, pm, an, cdv, ct, osl, rfl, lk, hcd, hD, hK⟩ := F.ex
  rcases hD with ⟨e, _⟩ | ⟨_, T, o, its, m, rfl, lT, oT, rT⟩
  · exact absurd e hd
  · refine ⟨fun us ws => us ++ ws ++ its.drop j, fun vs zs => vs ++ zs ++ dvs.drop j, fun s us ws X hl hw => ?_, fun _ _ _ _ r r2 => (r.append r2).append (rT.drop j), fun A H m _ _ _ _ r r2 => CvsOk.append (CvsOk.append r r2) (cvs_of_reps (hdd A H))⟩
    obtain ⟨k, e1, e2⟩ := h T kV doc pm an cdv ct us ws its hl hw rT.length.symm
    refine BindsTo.of_looks fun M => ?_
    rw [e1]
    exact looks_items X lT oT (.of_pure e2)
end
section
variable {X : Cx} {W : WX} {pos : Pos} {k n : Nat} {f C : Addr} {fd : FuncData} {ps kn : List Str} {S : DSp} {gC : List Cv → List Cv → List Cv} {x mn : Str} {p apos : Pos} {es : List Expr} {kws : List Keyword} {r : RK} {o : Expr} {ro : RE}
theorem keepP_K {fv : Value} (hk : PySem.W.keepIn X.K fv = true) : KeepP X fv X.K.In := fun h Y => PySem.W.keeps_K hk h Y
/-- f's reading at the arguments' cells -/
def rCallG (n : Nat) (S : DSp) (gC : List Cv → List Cv → List Cv) (pre : List Cv) (r : RK) : RE := fun g m K KE => r g m (fun cs ks m1 => (pre ++ cs).length = n ∧ callK S (gC (pre ++ cs) ks) g m1 K KE) KE
theorem call_go {pins : List (Addr × Obj)} {s : Shared} {σ : L2.St} {H : Hp} {A : Addr → Prop} {g : G} {m : Mem} {Kc : Cv → Mem → Prop} {KE : XC} {fv : Value} (fst fst2 : List Value) (fvs : List V) {P : Heap → Prop} (pre : List Cv)
    (F : DFn X.prog X.w X.K X.mg X.base k f fd ps S) (hr : Rm k X.A) (tk : Takes X W) (b : BindD X.K fd ps n kn gC) (ha : AF X W es kws kn r) (kp : KeepP X fv P) (rp : Vals fvs fst) (cp : CvsOk X.K A H m fvs pre) (I : Inv X pins σ H s) (hm : MemOk X.K A H m) (hc : CellsOk X.K A H σ g m)
    (q : rCallG n S gC pre r g m Kc KE) (ex : ExTo X.K W A m H KE)
    (hrun : ∀ us kw s1 σ' H1, Inv X pins σ' H1 s1 → P s1.heap ∧ ∀ R : Result → Shared → Prop, codeAny (model X.prog X.w) X.A (.call (.ref f) ⟨fst ++ us, kw⟩) R s1 → codeAny (model X.prog X.w) X.A (.call fv ⟨fst2 ++ us, kw⟩) R s1) :
    wpAny (model X.prog X.w) X.A (callWith pos fv fst2 (backTo pos (starEach es X.env)) (backToKw pos (keywordEach kws X.env))) (EvP X pins σ A m H Kc) X.xe s := by
  obtain ⟨g1, gV, b1, b2, b3⟩ := b.ex
  refine ha.run pos pins s σ H A g m _ KE fv fst2 P _ kp I hm hc q ex fun us ws s1 vs zs H1 A1 m1 cs ks I1 rv rz hw st1 cv1 cz1 q1 => ?_
  obtain ⟨hn, q1⟩ := q1
  refine ⟨(hrun us (kn.zip ws) s1 σ H1 I1).1, wpAny_call ((hrun us (kn.zip ws) s1 σ H1 I1).2 _ ?_)⟩
  have rv2 : Vals (fvs ++ vs) (fst ++ us) := rp.append rv
  have cv2 : CvsOk X.K A1 H1 m1 (fvs ++ vs) (pre ++ cs) := CvsOk.append (CvsOk.step hm st1 cp) cv1
  have hl : (fst ++ us).length = n := by rw [← rv2.length, paired_length cv2]; exact hn
  refine codeAny_mono (code_dfn (args := ⟨fst ++ us, kn.zip ws⟩) (us := g1 (fst ++ us) ws) (vs := gV (fvs ++ vs) zs) F hr tk (b1 s1 _ ws I1.kIn hl hw) I1 (b2 _ _ _ _ rv2 rz) st1.mem (hc.step hm st1) (b3 A1 H1 m1 _ _ _ _ cv2 cz1) q1 (ex.step st1)) fun R s2 z => ?_
  cases R with
  | error e => exact z
  | ok fl =>
    cases fl with
    | ret u =>
      obtain ⟨v, H2, A2, m2, c2, I2, rv', st2, cv', kc⟩ := z
      exact ⟨v, H2, A2, m2, c2, I2, rv', st1.trans st2, cv', kc⟩
    | next => exact z
    | brk => exact z
    | cont => exact z
/-- x(..), x a def of the module -/
theorem d_call (F : DFn X.prog X.w X.K X.mg X.base k f fd ps S) (hr : Rm k X.A) (tk : Takes X W) (hg : Gl X x) (hm' : X.mg x = some (.ref f)) (hk : PySem.W.keepIn X.K (.ref f) = true) (b : BindD X.K fd ps n kn gC) (ha : AF X W es kws kn r) (hdb : (x == ("__debug__" : Str)) = false := by decide) :
    DE X W (.Call (.Name x p) es kws pos) (rCallG n S gC [] r) := .mk fun pins s σ H A g m Kc KE I hm hc q ex => by
  refine wpAny_Call_Name_kw (ld_glob I hg hm' ?_ hdb)
  exact call_go [] [] [] [] F hr tk b ha (keepP_K hk) .nil .nil I hm hc q ex fun us ws s1 σ' H1 I1 => ⟨I1.kIn, fun R h => h⟩
/-- an instance of C without an attribute of that name -/
def isIn (C : Addr) (mn : Str) (k : Prop) : Dat → Prop
  | .ins C' fs => C' = C ∧ fs.lookup mn = none ∧ k
  | _ => False
theorem isIn_ok {k : Prop} {A : Addr → Prop} {H : Hp} {v : V} {d : Dat} (w : RepW X.K A H v d) (h : isIn C mn k d) : ∃ a dx vs, v = .ref a ∧ H a = some (.ins C dx vs) ∧ vs.lookup mn = none ∧ k := by
  cases d with
  | ins C' fs =>
    obtain ⟨rfl, l, h⟩ := h
    obtain ⟨a, dx, vs, e, hI, rr⟩ := w.inst
    exact ⟨a, dx, vs, e, hI, RepF.none rr l, h⟩
  | _ => exact h.elim
/-- o.m(..), m a def of o's class -/
def rMeth (C : Addr) (mn : Str) (n : Nat) (S : DSp) (gC : List Cv → List Cv → List Cv) (ro : RE) (r : RK) : RE := fun g m K KE => ro g m (fun co m1 => isIn C mn (rCallG n S gC [co] r g m1 K KE) (view m1 co)) KE
theorem d_meth {pl : Sem Bool} (c : Cls X.K C) (hm' : Meth X.K C mn f) (F : DFn X.prog X.w X.K X.mg X.base k f fd ps S) (hr : Rm k X.A) (tk : Takes X W) (b : BindD X.K fd ps n kn gC) (ho : DE X W o ro) (ha : AF X W es kws kn r)
    (ht : eval (.Call (.Attribute o mn apos) es kws pos) X.env = (do
      let ov ← eval o X.env
      standAt apos.atName
      let (f, first) ← holding [ov] (getMethod ov mn pl)
      callWith pos f first (backTo pos (starEach es X.env)) (backToKw pos (keywordEach kws X.env))) := by rfl) :
    DE X W (.Call (.Attribute o mn apos) es kws pos) (rMeth C mn n S gC ro r) := .mk fun pins s σ H A g m Kc KE I hm hc q ex => by
  refine PySem.W.methodCall_KW (pl := pl) (thn (DE.go ho I hm hc q ex) fun u s1 ⟨x, H1, A1, m1, co, I1, rx, st1, cv1, q1⟩ => ?_) ht
  obtain ⟨a, dx, vs, rfl, hI, l, q2⟩ := isIn_ok (cv1.w st1.mem) q1
  obtain rfl : u = Value.ref a := rx
  refine getmeth_ok I1 hI c hm' l ?_
  refine thn (call_go [.ref a] [.ref a] [.ref a] [co] F hr tk b ha (keepP_K hm'.kp) (.cons rfl .nil) (.cons cv1 .nil) I1 st1.mem (hc.step hm st1) q2 (ex.step st1) fun us ws s1 σ' H1 I1 => ⟨I1.kIn, fun R h => h⟩) ?_
  exact fun u s2 ⟨v, H2, A2, m2, c2, I2, rv', st2, cv', kc⟩ => ⟨v, H2, A2, m2, c2, I2, rv', st1.trans st2, cv', kc⟩
/-! ### C.m(..) -/
/-- what of the text C must have for its attributes to be read -/
structure StaM (K : PySem.W.Frag) (C : Addr) (mc : Value) (mn : Str) (p f : Addr) : Prop where
  rd : ClX.CRead K C mc
  at_ : PySem.W.findCls K (.ref C) mc mn = some (.get (.builtin "staticmethod.__get__") (.ref p) .none (.ref C))
  rc : ∃ rest, PySem.W.recIn K p "staticmethod" = some (.ref f :: rest)
  kp : PySem.W.keepIn K (.ref f) = true
/-- .. through an instance of C -/
structure StaI (K : PySem.W.Frag) (C : Addr) (mn : Str) (p f : Addr) : Prop where
  pg : PySem.W.plainGet K C Str.empty = true
  ic : PySem.W.isClsIn K C = true
  at_ : PySem.W.findIn K (.ref C) mn = some (some (.ref p))
  ty : PySem.W.typeIn K (.ref p) = some (.type "staticmethod")
  get : PySem.W.specialIn K (.ref p) "__get__" = some (some (.builtin "staticmethod.__get__"))
  tk : PySem.W.takesIn K (.ref p) = some false
  cp : PySem.W.copiedNames.contains mn = false
  rc : ∃ rest, PySem.W.recIn K p "staticmethod" = some (.ref f :: rest)
  kp : PySem.W.keepIn K (.ref f) = true
/-- the class itself -/
def isCl (C : Addr) (k : Prop) : Cv → Prop
  | .p (.raw (.ref D)) => D = C ∧ k
  | _ => False
theorem isCl_ok {k : Prop} {A : Addr → Prop} {H : Hp} {m : Mem} {v : V} {c : Cv} (cv : CvOk X.K A H m v c) (h : isCl C k c) : v = .ref C ∧ k := by
  unfold isCl at h
  split at h
  · obtain ⟨rfl, h⟩ := h
    have cv' : Rep X.K A H v (.raw (.ref _)) := cv
    cases cv'
    exact ⟨rfl, h⟩
  · exact h.elim
def rStat (C : Addr) (n : Nat) (S : DSp) (gC : List Cv → List Cv → List Cv) (ro : RE) (r : RK) : RE := fun g m K KE => ro g m (fun co m1 => isCl C (rCallG n S gC [] r g m1 K KE) co) KE
theorem d_stat {pl : Sem Bool} {mc : Value} {pa : Addr} (c : StaM X.K C mc mn pa f) (F : DFn X.prog X.w X.K X.mg X.base k f fd ps S) (hr : Rm k X.A) (tk : Takes X W) (b : BindD X.K fd ps n kn gC) (ho : DE X W o ro) (ha : AF X W es kws kn r)
    (ht : eval (.Call (.Attribute o mn apos) es kws pos) X.env = (do
      let ov ← eval o X.env
      standAt apos.atName
      let (f, first) ← holding [ov] (getMethod ov mn pl)
      callWith pos f first (backTo pos (starEach es X.env)) (backToKw pos (keywordEach kws X.env))) := by rfl) :
    DE X W (.Call (.Attribute o mn apos) es kws pos) (rStat C n S gC ro r) := .mk fun pins s σ H A g m Kc KE I hm hc q ex => by
  refine PySem.W.methodCall_KW (pl := pl) (thn (DE.go ho I hm hc q ex) fun u s1 ⟨x, H1, A1, m1, co, I1, rx, st1, cv1, q1⟩ => ?_) ht
  obtain ⟨rfl, q2⟩ := isCl_ok cv1 q1
  obtain rfl : u = Value.ref C := rx
  obtain ⟨rest, hp⟩ := c.rc
  refine PySem.W.method_cls I1.kIn c.rd.ga (PySem.W.cls_bind I1.kIn c.rd.rd c.at_ (wpAny_call (PySem.W.sm_get (s := { s1 with toks := s1.toks + 1 }) I1.kIn hp (PySem.W.handed_on rfl ?_))))
  refine thn (call_go [] [] [] [] F hr tk b ha (keepP_K c.kp) .nil .nil (I1.tok _) st1.mem (hc.step hm st1) q2 (ex.step st1) fun us ws s1 σ' H1 I1 => ⟨I1.kIn, fun R h => h⟩) ?_
  exact fun u s2 ⟨v, H2, A2, m2, c2, I2, rv', st2, cv', kc⟩ => ⟨v, H2, A2, m2, c2, I2, rv', st1.trans st2, cv', kc⟩
def rStatI (C : Addr) (mn : Str) (n : Nat) (S : DSp) (gC : List Cv → List Cv → List Cv) (ro : RE) (r : RK) : RE := fun g m K KE => ro g m (fun co m1 => isIn C mn (rCallG n S gC [] r g m1 K KE) (view m1 co)) KE
theorem d_statI {pl : Sem Bool} {pa : Addr} (c : StaI X.K C mn pa f) (F : DFn X.prog X.w X.K X.mg X.base k f fd ps S) (hr : Rm k X.A) (tk : Takes X W) (b : BindD X.K fd ps n kn gC) (ho : DE X W o ro) (ha : AF X W es kws kn r)
    (ht : eval (.Call (.Attribute o mn apos) es kws pos) X.env = (do
      let ov ← eval o X.env
      standAt apos.atName
      let (f, first) ← holding [ov] (getMethod ov mn pl)
      callWith pos f first (backTo pos (starEach es X.env)) (backToKw pos (keywordEach kws X.env))) := by rfl) :
    DE X W (.Call (.Attribute o mn apos) es kws pos) (rStatI C mn n S gC ro r) := .mk fun pins s σ H A g m Kc KE I hm hc q ex => by
  refine PySem.W.methodCall_KW (pl := pl) (thn (DE.go ho I hm hc q ex) fun u s1 ⟨x, H1, A1, m1, co, I1, rx, st1, cv1, q1⟩ => ?_) ht
  obtain ⟨a, dx, vs, rfl, hI, l, q2⟩ := isIn_ok (cv1.w st1.mem) q1
  obtain rfl : u = Value.ref a := rx
  obtain ⟨rest, hp⟩ := c.rc
  obtain ⟨mA, O, rr, _, _, _⟩ := ins_get I1.hok hI
  have hn : mA mn = none := RelO.none_of (by rw [← l]; exact rr mn)
  obtain ⟨od, J, hl⟩ := O.look
  refine PySem.W.method_usual (r := some (.ref pa)) I1.kIn J (PySem.W.plainGet_of c.pg).1 (PySem.W.plainGet_of c.pg).2 c.at_ (by show ((PySem.W.typeIn X.K (.ref pa)).any fun t => t != .type "function" && t != .type "method_descriptor" && t != .type "wrapper_descriptor") = true; rw [c.ty]; decide +kernel) ?_
  refine PySem.W.get_bind I1.kIn J (PySem.W.plainGet_of c.pg).1 (ClX.find_cm c.ic c.at_ c.get c.tk c.cp (by rw [hl mn, hn])) (PySem.W.plainGet_of c.pg).2 (wpAny_call (PySem.W.sm_get (s := { s1 with toks := s1.toks + 1 }) I1.kIn hp (PySem.W.handed_on rfl ?_)))
  refine thn (call_go [] [] [] [] F hr tk b ha (keepP_K c.kp) .nil .nil (I1.tok _) st1.mem (hc.step hm st1) q2 (ex.step st1) fun us ws s1 σ' H1 I1 => ⟨I1.kIn, fun R h => h⟩) ?_
  exact fun u s2 ⟨v, H2, A2, m2, c2, I2, rv', st2, cv', kc⟩ => ⟨v, H2, A2, m2, c2, I2, rv', st1.trans st2, cv', kc⟩
/-! ### classmethods -/
theorem EvP.unpin {pr : Addr × Obj} {pins : List (Addr × Obj)} {σ : L2.St} {A : Addr → Prop} {m : Mem} {H : Hp} {Kc : Cv → Mem → Prop} {u : Value} {s1 : Shared} (h : EvP X (pr :: pins) σ A m H Kc u s1) : EvP X pins σ A m H Kc u s1 := by
  obtain ⟨v, H1, A1, m1, c1, I1, rv, st, cv, kc⟩ := h
  exact ⟨v, H1, A1, m1, c1, ClX.unpin I1, rv, st, cv, kc⟩
theorem cm_go {pins : List (Addr × Obj)} {s : Shared} {σ : L2.St} {H : Hp} {A : Addr → Prop} {g : G} {m : Mem} {Kc : Cv → Mem → Prop} {KE : XC} {q : Addr} (F : DFn X.prog X.w X.K X.mg X.base k f fd ps S) (hr : Rm k X.A) (tk : Takes X W) (b : BindD X.K fd ps n kn gC) (ha : AF X W es kws kn r) (hf : PySem.W.fnIn X.K f = true)
    (I : Inv X ((q, PySem.W.methodObj (.ref f) (.ref C)) :: pins) σ H s) (hm : MemOk X.K A H m) (hc : CellsOk X.K A H σ g m) (h : rCallG n S gC [.p (.raw (.ref C))] r g m Kc KE) (ex : ExTo X.K W A m H KE) :
    wpAny (model X.prog X.w) X.A (callWith pos (.ref q) [] (backTo pos (starEach es X.env)) (backToKw pos (keywordEach kws X.env))) (EvP X pins σ A m H Kc) X.xe s := by
  refine thn (call_go [.ref C] [] [.ref C] [.p (.raw (.ref C))] F hr tk b ha (fun h Y => PySem.W.keeps_M (q := q) (self := .ref C) hf h Y) (.cons rfl .nil) (.cons (Rep.raw _) .nil) I hm hc h ex fun us kw s1 σ' H1 I1 => ⟨⟨ClX.pin_at I1, I1.kIn⟩, fun R z => ?_⟩) fun u s2 z => EvP.unpin z
  exact PySem.W.method_call (ClX.pin_at I1) z
def rCls (C : Addr) (n : Nat) (S : DSp) (gC : List Cv → List Cv → List Cv) (ro : RE) (r : RK) : RE := fun g m K KE => ro g m (fun co m1 => isCl C (rCallG n S gC [.p (.raw (.ref C))] r g m1 K KE) co) KE
theorem d_cls {pl : Sem Bool} {mc : Value} {pa : Addr} (rd : ClX.CRead X.K C mc) (c : ClX.CMet X.K C mc mn pa f) (F : DFn X.prog X.w X.K X.mg X.base k f fd ps S) (hr : Rm k X.A) (tk : Takes X W) (b : BindD X.K fd ps n kn gC) (ho : DE X W o ro) (ha : AF X W es kws kn r)
    (ht : eval (.Call (.Attribute o mn apos) es kws pos) X.env = (do
      let ov ← eval o X.env
      standAt apos.atName
      let (f, first) ← holding [ov] (getMethod ov mn pl)
      callWith pos f first (backTo pos (starEach es X.env)) (backToKw pos (keywordEach kws X.env))) := by rfl) :
    DE X W (.Call (.Attribute o mn apos) es kws pos) (rCls C n S gC ro r) := .mk fun pins s σ H A g m Kc KE I hm hc q ex => by
  refine PySem.W.methodCall_KW (pl := pl) (thn (DE.go ho I hm hc q ex) fun u s1 ⟨x, H1, A1, m1, co, I1, rx, st1, cv1, q1⟩ => ?_) ht
  obtain ⟨rfl, q2⟩ := isCl_ok cv1 q1
  obtain rfl : u = Value.ref C := rx
  refine ClX.getmethcm_ok I1 rd c fun s2 I2 => ?_
  refine thn (cm_go F hr tk b ha c.fi I2 st1.mem (hc.step hm st1) q2 (ex.step st1)) ?_
  exact fun u s2 ⟨v, H2, A2, m2, c2, I2, rv', st2, cv', kc⟩ => ⟨v, H2, A2, m2, c2, I2, rv', st1.trans st2, cv', kc⟩
def rClsI (C : Addr) (mn : Str) (n : Nat) (S : DSp) (gC : List Cv → List Cv → List Cv) (ro : RE) (r : RK) : RE := fun g m K KE => ro g m (fun co m1 => isIn C mn (rCallG n S gC [.p (.raw (.ref C))] r g m1 K KE) (view m1 co)) KE
theorem d_clsI {pl : Sem Bool} {pa : Addr} (c : ClX.CInst X.K C mn pa f) (F : DFn X.prog X.w X.K X.mg X.base k f fd ps S) (hr : Rm k X.A) (tk : Takes X W) (b : BindD X.K fd ps n kn gC) (ho : DE X W o ro) (ha : AF X W es kws kn r)
    (ht : eval (.Call (.Attribute o mn apos) es kws pos) X.env = (do
      let ov ← eval o X.env
      standAt apos.atName
      let (f, first) ← holding [ov] (getMethod ov mn pl)
      callWith pos f first (backTo pos (starEach es X.env)) (backToKw pos (keywordEach kws X.env))) := by rfl) :
    DE X W (.Call (.Attribute o mn apos) es kws pos) (rClsI C mn n S gC ro r) := .mk fun pins s σ H A g m Kc KE I hm hc q ex => by
  refine PySem.W.methodCall_KW (pl := pl) (thn (DE.go ho I hm hc q ex) fun u s1 ⟨x, H1, A1, m1, co, I1, rx, st1, cv1, q1⟩ => ?_) ht
  obtain ⟨a, dx, vs, rfl, hI, l, q2⟩ := isIn_ok (cv1.w st1.mem) q1
  obtain rfl : u = Value.ref a := rx
  obtain ⟨mA, O, rr, _, _, _⟩ := ins_get I1.hok hI
  have hn : mA mn = none := RelO.none_of (by rw [← l]; exact rr mn)
  obtain ⟨od, J, hl⟩ := O.look
  refine ClX.getmethim_ok I1 J (by rw [hl mn, hn]) c fun s2 I2 => ?_
  refine thn (cm_go F hr tk b ha c.fi I2 st1.mem (hc.step hm st1) q2 (ex.step st1)) ?_
  exact fun u s2 ⟨v, H2, A2, m2, c2, I2, rv', st2, cv', kc⟩ => ⟨v, H2, A2, m2, c2, I2, rv', st1.trans st2, cv', kc⟩
end
end DL
/-! DL9: instances made, properties, constants of a class. -/
namespace DL
open PySem PySem.Spec PyProof.Rows L2
section
variable {X : Cx} {W : WX} {pos : Pos} {k n : Nat} {f C : Addr} {fd : FuncData} {ps kn : List Str} {S : DSp} {gC : List Cv → List Cv → List Cv} {x mn : Str} {p apos : Pos} {es : List Expr} {kws : List Keyword} {r : RK} {o : Expr} {ro : RE}
def rMake (new : Bool) (C : Addr) (n : Nat) (S : DSp) (gC : List Cv → List Cv → List Cv) (rf : RE) (r : RK) : RE := fun g m K KE => rf g m (fun co m0 => isCl C (r g m0 (fun cs ks m1 => cs.length + 1 = n ∧
  ∀ a, S (gC (.l 0 0 :: cs.map shc) (ks.map shc)) ([(a, .ins C [])] :: m1) (fun c m2 => c = .p .non ∧ exK new K (.l 0 0) m2) fun x m2 => KE x g m2.tail) KE) co) KE
theorem CvsOk.inner {K : PySem.W.Frag} {A : Addr → Prop} {H : Hp} {m : Mem} : ∀ {vs : List V} {cs : List Cv}, CvsOk K A H m vs cs → CvsOk K A H ([] :: m) vs (cs.map shc)
  | _, _, .nil => .nil
  | _, _, .cons r t => .cons r.inner (CvsOk.inner t)
theorem run_mk {pins : List (Addr × Obj)} {σ : L2.St} {H : Hp} {s : Shared} {us ws : List Value} {vs zs : List V} {A : Addr → Prop} {g : G} {m : Mem} {cs ks : List Cv} {Kc : Cv → Mem → Prop} {KE : XC} (new : Bool)
    (M : Mk X.K C f) (F : DFn X.prog X.w X.K X.mg X.base k f fd ps S) (hr : Rm (k + 1) X.A) (tk : Takes X W) (b : BindD X.K fd ps n kn gC) (I : Inv X pins σ H s) (rv : Vals vs us) (rz : Vals zs ws) (hw : ws.length = kn.length) (hn : cs.length + 1 = n)
    (hm : MemOk X.K A H m) (hc : CellsOk X.K A H σ g m) (cv : CvsOk X.K A H m vs cs) (cz : CvsOk X.K A H m zs ks) (ex : ExTo X.K W A m H KE)
    (q : ∀ a, S (gC (.l 0 0 :: cs.map shc) (ks.map shc)) ([(a, .ins C [])] :: m) (fun c m2 => c = .p .non ∧ exK new Kc (.l 0 0) m2) fun x m2 => KE x g m2.tail) :
    wpAny (model X.prog X.w) X.A (call (.ref C) us (kn.zip ws)) (EvP X pins σ A m H Kc) X.xe s := by
  obtain ⟨g1, gV, b1, b2, b3⟩ := b.ex
  have f1 : H (s.heap.objs.size + 1) = none := I.hok.fresh (Nat.le_succ _)
  have f2 : H s.heap.objs.size = none := I.hok.fresh (Nat.le_refl _)
  have ne : s.heap.objs.size ≠ s.heap.objs.size + 1 := Nat.ne_of_lt (Nat.lt_succ_self _)
  have I2 := Inv.made (C := C) I
  have st0 : Step X.K A ([] :: m) H (fun b => A b ∨ b = s.heap.objs.size + 1) ([(s.heap.objs.size + 1, .ins C [])] :: m) (upd (upd H s.heap.objs.size (.own (s.heap.objs.size + 1))) (s.heap.objs.size + 1) (.ins C s.heap.objs.size [])) :=
    Step.push (f := []) (lo := .ins C []) hm.inner f1 (fun H' e _ => ⟨.inr rfl, _, [], e, .nil⟩) (fun b u e => ne_of_none e f1) upd_same fun b u e => by rw [upd_ne (ne_of_none e f1), upd_ne (ne_of_none e f2)]; exact e
  have r1 : Vals (V.ref (s.heap.objs.size + 1) :: vs) (Value.ref (s.heap.objs.size + 1) :: us) := .cons rfl rv
  have n1 : (Value.ref (s.heap.objs.size + 1) :: us).length = n := by rw [← r1.length, List.length_cons, paired_length cv]; exact hn
  have c0 : ∀ A H, CvOk X.K A H ([(s.heap.objs.size + 1, Lo.ins C [])] :: m) (V.ref (s.heap.objs.size + 1)) (.l 0 0) := fun A H => ⟨s.heap.objs.size + 1, _, rfl, rfl⟩
  have hq : toSp X.K S (gV (V.ref (s.heap.objs.size + 1) :: vs) zs) (upd (upd H s.heap.objs.size (.own (s.heap.objs.size + 1))) (s.heap.objs.size + 1) (.ins C s.heap.objs.size []))
      (fun v H' => v = .non ∧ ∃ A1 m1 c1, Step X.K A m H A1 m1 H' ∧ CvOk X.K A1 H' m1 (V.ref (s.heap.objs.size + 1)) c1 ∧ Kc c1 m1) (fun cls d H' => W cls d σ H') := by
    refine ⟨_, _, _, _, _, st0.mem, b3 _ _ _ _ _ _ _ (.cons (c0 _ _) (CvsOk.step hm.inner st0 (CvsOk.inner cv))) (CvsOk.step hm.inner st0 (CvsOk.inner cz)), q (s.heap.objs.size + 1), ?_, ?_⟩
    · intro c A' m' v H' q' st cv'
      obtain ⟨rfl, q'⟩ := q'
      have hv : v = .non := (show Rep X.K A' H' v .non from cv') |> fun h => by cases h; rfl
      refine ⟨hv, ?_⟩
      exact exK_ok (v := V.ref (s.heap.objs.size + 1)) (Q := fun v H' => ∃ A1 m1 c1, Step X.K A m H A1 m1 H' ∧ CvOk X.K A1 H' m1 v c1 ∧ Kc c1 m1) hm (st0.trans st) (CvOk.step st0.mem st (c0 _ _)) q' fun c A' m' v H' kc st cv => ⟨A', m', c, st, cv, kc⟩
    · intro x A' m' H' cls d ke st xo
      have st2 := st0.trans st
      cases m' with
      | nil => cases st2.pre
      | cons f r =>
        obtain ⟨x1, x2⟩ := xo
        have P := pop_step hm st2 (fun _ => False) fun _ z => z.elim
        refine ex x g _ _ σ H' cls d ke P (hc.step hm P) ⟨x1, ?_⟩
        cases d with
        | none => exact x2
        | some dx => obtain ⟨vs', x3, x4⟩ := x2; exact ⟨vs', x3, x4.less fun _ z => z.1⟩
  refine wpAny_call (make_map (f := f) I.kIn M.makes M.init (beq_iff_eq.mp M.fn) (codeAny_mono (F.run _ X.stack _ _ ⟨Value.ref (s.heap.objs.size + 1) :: us, kn.zip ws⟩ (g1 (Value.ref (s.heap.objs.size + 1) :: us) ws) _ _ _ (hr.make C us (kn.zip ws))
    (I2.env0.make C us (kn.zip ws)) (b1 _ (Value.ref (s.heap.objs.size + 1) :: us) ws I2.kIn n1 hw) (b2 _ _ _ _ r1 rz) hq) fun r s' hq' => ?_))
  cases r with
  | error e => exact tk e s' (XE.of_call I2 (fun _ _ _ h => h) hq')
  | ok fl =>
    cases fl with
    | ret u =>
      obtain ⟨v, H', I3, rv3, ev, A1, m1, c1, st, cv1, kc⟩ := I2.after hq'
      subst ev
      exact ⟨rv3, ⟨V.ref (s.heap.objs.size + 1), H', A1, m1, c1, I3, rfl, st, cv1, kc⟩⟩
    | next => exact False.elim hq'
    | brk => exact False.elim hq'
    | cont => exact False.elim hq'
/-- C(..), C by a name -/
theorem d_make {rf : RE} (new : Bool) (M : Mk X.K C f) (F : DFn X.prog X.w X.K X.mg X.base k f fd ps S) (hr : Rm (k + 1) X.A) (tk : Takes X W) (b : BindD X.K fd ps n kn gC) (hf : DE X W (.Name x p) rf) (ha : AF X W es kws kn r) :
    DE X W (.Call (.Name x p) es kws pos) (rMake new C n S gC rf r) := .mk fun pins s σ H A g m Kc KE I hm hc q ex => by
  refine wpAny_Call_Name_kw (thn (DE.go hf I hm hc q ex) fun u s1 ⟨y, H1, A1, m1, co, I1, ry, st1, cv1, q1⟩ => ?_)
  obtain ⟨rfl, q2⟩ := isCl_ok cv1 q1
  obtain rfl : u = Value.ref C := ry
  refine ha.run pos pins s1 σ H1 A1 g m1 _ KE (.ref C) [] X.K.In _ (keepP_K M.kp) I1 st1.mem (hc.step hm st1) q2 (ex.step st1) fun us ws s2 vs zs H2 A2 m2 cs ks I2 rv rz hw st2 cv2 cz2 q3 => ⟨I2.kIn, ?_⟩
  have st := st1.trans st2
  exact thn (run_mk new M F hr tk b I2 rv rz hw q3.1 st2.mem (hc.step hm st) cv2 cz2 (ex.step st) q3.2) fun u s3 ⟨v, H3, A3, m3, c3, I3, rv', st3, cv', kc⟩ => ⟨v, H3, A3, m3, c3, I3, rv', st.trans st3, cv', kc⟩
/-- a name of the module that stands for a class or a def -/
theorem d_glob {d : Dat} {v : V} {u : Value} (hg : Gl X x) (hm : X.mg x = some u) (r : RelV v u) (hd : ∀ A H, Rep X.K A H v d) (hdb : (x == ("__debug__" : Str)) = false := by decide) : DE X W (.Name x pos) (rC d) := d_con (pe_glob hg hm r hdb) hd
theorem d_gref (hg : Gl X x) (hm : X.mg x = some (.ref C)) (hdb : (x == ("__debug__" : Str)) = false := by decide) : DE X W (.Name x pos) (rC (.raw (.ref C))) := d_glob hg hm (v := .ref C) rfl (fun _ _ => .raw _) hdb
theorem d_gint {i : Int} (hg : Gl X x) (hm : ∃ t, X.mg x = some (.int i t)) (hdb : (x == ("__debug__" : Str)) = false := by decide) : DE X W (.Name x pos) (rC (.int i)) := by
  obtain ⟨t, e⟩ := hm
  exact d_glob hg e (v := .int i) ⟨t, rfl⟩ (fun _ _ => .int i) hdb
theorem d_gstr {i : Str} (hg : Gl X x) (hm : ∃ t, X.mg x = some (.str i t)) (hdb : (x == ("__debug__" : Str)) = false := by decide) : DE X W (.Name x pos) (rC (.str i)) := by
  obtain ⟨t, e⟩ := hm
  exact d_glob hg e (v := .str i) ⟨t, rfl⟩ (fun _ _ => .str i) hdb
/-! ### properties -/
def isInP (C : Addr) (k : Prop) : Dat → Prop
  | .ins C' _ => C' = C ∧ k
  | _ => False
def rProp (C : Addr) (S : DSp) (ro : RE) : RE := fun g m K KE => ro g m (fun co m1 => isInP C (S [co] m1 K fun _ _ => False) (view m1 co)) KE
theorem d_prop {pa : Addr} {e : Expr} {fn : Str} (c : Cls X.K C) (hp : PropOf X.K C fn pa f) (F : DFn X.prog X.w X.K X.mg X.base k f fd ps S) (hr : Rm (k + 1) X.A) (b : BindD X.K fd ps 1 [] fun cs _ => cs) (ho : DE X W e ro) (hab : attributeBase e fn X.env (eval e X.env) = eval e X.env := by rfl) :
    DE X W (.Attribute e fn pos) (rProp C S ro) := .mk fun pins s σ H A g m Kc KE I hm hc q ex => by
  refine attr_of hab (thn (DE.go ho I hm hc q ex) fun u s1 ⟨x, H1, A1, m1, co, I1, rx, st1, cv1, q1⟩ => ?_)
  have w := cv1.w st1.mem
  have q1' : isInP C (S [co] m1 Kc fun _ _ => False) (view m1 co) := q1
  cases e1 : view m1 co with
  | ins C' fs =>
    rw [e1] at q1' w
    obtain ⟨rfl, q2⟩ := q1'
    obtain ⟨a, dx, vs, rfl, hI, rr⟩ := w.inst
    obtain rfl : u = Value.ref a := rx
    obtain ⟨mA, O, _, _, _, _⟩ := ins_get I1.hok hI
    obtain ⟨od, J, _⟩ := O.look
    obtain ⟨rest, hrec⟩ := hp.rec_
    have I2 := I1.tok (s1.toks + 1)
    have hcl : (PySem.W.clsIn X.K C').isSome = true := by
      obtain ⟨cd, hc, _⟩ := PySem.W.any_some c.hd
      rw [hc]; rfl
    obtain ⟨g1, gV, b1, b2, b3⟩ := b.ex
    refine PySem.W.get_bind I1.kIn J (PySem.W.plainGet_of (c.get fn)).1 (PySem.W.findObj_data hcl hp.at_ hp.get hp.tak) (PySem.W.plainGet_of (c.get fn)).2 (wpAny_call (PySem.W.prop_get (s := { s1 with toks := s1.toks + 1 }) I1.kIn hrec ?_))
    refine codeAny_mono (F.run X.A.in1 X.stack { s1 with toks := s1.toks + 1 } H1 ⟨[.ref a], []⟩ (g1 [.ref a] []) (gV [.ref a] []) (fun v H2 => ∃ A2 m2 c2, Step X.K A1 m1 H1 A2 m2 H2 ∧ CvOk X.K A2 H2 m2 v c2 ∧ Kc c2 m2) (fun _ _ _ => False) hr.in1 I2.env0.in1
      (b1 _ [.ref a] [] I2.kIn rfl rfl) (b2 _ _ _ _ (.cons rfl .nil) .nil) ⟨A1, _, m1, _, _, st1.mem, b3 _ _ _ _ _ _ _ (.cons cv1 .nil) .nil, q2, fun c A' m' v H' kc st cv => ⟨A', m', c, st, cv, kc⟩, fun x A' m' H' cls d ke _ _ => ke.elim⟩) fun R s' hq => ?_
    cases R with
    | error er =>
      obtain ⟨_, _, _, _, _, _, _, _, _, _, _, _, _, _, _, _, w⟩ := XE.of_call (W := W0) I2 (fun _ _ _ h => h) hq
      exact w.elim
    | ok fl =>
      cases fl with
      | ret u =>
        obtain ⟨v, H3, I3, rv, A2, m2, c2, st2, cv2, kc⟩ := I2.after hq
        show wpAny _ _ (handedOut u) _ _ _
        rw [PySem.W.handedOut_of (handed_of rv)]
        exact wpAny_pure ⟨v, H3, A2, m2, c2, I3, rv, st1.trans st2, cv2, kc⟩
      | next => exact False.elim hq
      | brk => exact False.elim hq
      | cont => exact False.elim hq
  | _ => rw [e1] at q1'; exact q1'.elim
/-! ### constants of a class -/
def rCVal (C : Addr) (d : Dat) (ro : RE) : RE := fun g m K KE => ro g m (fun co m1 => isCl C (K (.p d) m1) co) KE
theorem d_cval {mc : Value} {e : Expr} {fn : Str} {v : V} {u : Value} {d : Dat} (rd : ClX.CRead X.K C mc) (k : ClX.CVal X.K C mc fn v u) (hd : ∀ A H, Rep X.K A H v d) (ho : DE X W e ro) (hab : attributeBase e fn X.env (eval e X.env) = eval e X.env := by rfl) :
    DE X W (.Attribute e fn pos) (rCVal C d ro) := .mk fun pins s σ H A g m Kc KE I hm hc q ex => by
  refine attr_of hab (thn (DE.go ho I hm hc q ex) fun u' s1 ⟨x, H1, A1, m1, co, I1, rx, st1, cv1, q1⟩ => ?_)
  obtain ⟨rfl, q2⟩ := isCl_ok cv1 q1
  obtain rfl : u' = Value.ref C := rx
  exact ClX.getcval_ok I1 rd k fun s2 I2 => ⟨v, H1, A1, m1, .p d, I2, k.rel, st1, hd _ _, q2⟩
def rConI (C : Addr) (fn : Str) (d : Dat) (ro : RE) : RE := fun g m K KE => ro g m (fun co m1 => isIn C fn (K (.p d) m1) (view m1 co)) KE
theorem d_conI {e : Expr} {fn : Str} {v : V} {u : Value} {d : Dat} (c : Cls X.K C) (k : Con X.K C fn v u) (hd : ∀ A H, Rep X.K A H v d) (ho : DE X W e ro) (hab : attributeBase e fn X.env (eval e X.env) = eval e X.env := by rfl) :
    DE X W (.Attribute e fn pos) (rConI C fn d ro) := .mk fun pins s σ H A g m Kc KE I hm hc q ex => by
  refine attr_of hab (thn (DE.go ho I hm hc q ex) fun u' s1 ⟨x, H1, A1, m1, co, I1, rx, st1, cv1, q1⟩ => ?_)
  obtain ⟨a, dx, vs, rfl, hI, l, q2⟩ := isIn_ok (cv1.w st1.mem) q1
  obtain rfl : u' = Value.ref a := rx
  exact getcon_ok I1 hI c k l fun s2 I2 => ⟨v, H1, A1, m1, .p d, I2, k.rel, st1, hd _ _, q2⟩
end
end DL
/-! DL10: operators and comparisons on data. -/
namespace DL
open PySem PySem.Spec PyProof.Rows L2
theorem Room.hu {k : Nat} {A : Around} (r : Rm k A) : A.units + 64 < cLine := r.room.units
theorem Rm.u65 {k : Nat} {A : Around} (r : Rm k A) : A.units + 65 < cLine := by have := r.room.un; omega
theorem Rm.u0 {k : Nat} {A : Around} (r : Rm k A) : A.units < cLine := r.room.units0
section
variable {X : Cx} {W : WX} {pos : Pos}
theorem RepW.rep_tup {K : PySem.W.Frag} {A : Addr → Prop} {H : Hp} {v : V} {ds : List Dat} (h : RepW K A H v (.tup ds)) : Rep K A H v (.tup ds) := by
  cases h with
  | r h => exact h
/-- an operator on two ints -/
def iF (C : Int → Int → Prop) (f : Int → Int → Int) : F2 := fun d e K => match d, e with
  | .int i, .int j => C i j ∧ K (.int (f i j))
  | _, _ => False
theorem iF_of {f : Value → Value → Sem Value} {C : Int → Int → Prop} {g : Int → Int → Int} (h : OpR X f (rI C fun i j => .int (g i j))) : OpD X f (iF C g) := by
  intro pins s σ H x y v u A d e KK Q I rx ry al wx wy q k
  unfold iF at q; split at q
  · cases wx.int; cases wy.int
    exact h pins s σ H _ _ v u Q I rx ry ⟨_, _, rfl, rfl, q.1, k _ _ H q.2 (.refl H) (.int _)⟩
  · exact q.elim
theorem iF_of0 {f : Value → Value → Sem Value} {g : Int → Int → Int} (h : OpR X f (rI0 fun i j => .int (g i j))) : OpD X f (iF (fun _ _ => True) g) := by
  intro pins s σ H x y v u A d e KK Q I rx ry al wx wy q k
  unfold iF at q; split at q
  · cases wx.int; cases wy.int
    exact h pins s σ H _ _ v u Q I rx ry ⟨_, _, rfl, rfl, k _ _ H q.2 (.refl H) (.int _)⟩
  · exact q.elim
def addF : F2 := fun d e K => match d, e with
  | .int i, .int j => K (.int (i + j))
  | .str x, .str y => x.length + y.length ≤ sizeLine ∧ K (.str (x ++ y))
  | .lst xs, .lst ys => xs.length + ys.length ≤ sizeLine ∧ K (.lst (xs ++ ys))
  | .tup xs, .tup ys => xs.length + ys.length ≤ sizeLine ∧ K (.tup (xs ++ ys))
  | _, _ => False
theorem upd_same' {H : Hp} {p : Addr} {o : HO} (hp : H p = none) : SameH H (upd H p o) := fun b u e => by rw [upd_ne (ne_of_none e hp)]; exact e
theorem Reps.sameH {K : PySem.W.Frag} {A : Addr → Prop} {H H' : Hp} {vs : List V} {ds : List Dat} (r : Reps K A H vs ds) (s : SameH H H') : Reps K A H' vs ds :=
  r.go (A' := A) (L := fun _ => False) ⟨fun b o e _ => s b o e, fun b e => (by
    cases q : H b with
    | none => rfl
    | some o =>
      have e2 := s b o q
      rw [e] at e2
      cases e2), fun _ e => e, fun _ e => Or.inl e⟩ fun _ z => z.elim
theorem rep_newT {K : PySem.W.Frag} {A : Addr → Prop} {H : Hp} {vs : List V} {ds : List Dat} {p : Addr} (al : Al A H) (hp : H p = none) (r : Reps K A H vs ds) : Rep K A (upd H p (.tup vs)) (.ref p) (.tup ds) := .tup (.inl upd_same) (al.not hp) (r.sameH (upd_same' hp))
theorem rep_newL {K : PySem.W.Frag} {A : Addr → Prop} {H : Hp} {vs : List V} {ds : List Dat} {p : Addr} (al : Al A H) (hp : H p = none) (r : Reps K A H vs ds) : Rep K A (upd H p (.lst vs)) (.ref p) (.lst ds) := .lst upd_same (al.not hp) (r.sameH (upd_same' hp))
theorem Reps.nil_iff {K : PySem.W.Frag} {A : Addr → Prop} {H : Hp} {vs : List V} {ds : List Dat} (r : Reps K A H vs ds) : vs = [] ↔ ds = [] := by cases r <;> simp
theorem op_addD : OpD X (binaryOp .Add) addF := by
  intro pins s σ H x y v u A d e KK Q I rx ry al wx wy q k
  unfold addF at q; split at q
  · cases wx.int; cases wy.int
    exact op_add pins s σ H _ _ v u Q I rx ry ⟨_, _, rfl, rfl, k _ _ H q (.refl H) (.int _)⟩
  · cases wx.str; cases wy.str
    exact op_add_str pins s σ H _ _ v u Q I rx ry ⟨_, _, rfl, rfl, q.1, k _ _ H q.2 (.refl H) (.str _)⟩
  · obtain ⟨a, vs, rfl, h1, r1⟩ := wx.seqH
    obtain ⟨b, ws, rfl, h2, r2⟩ := wy.seqH
    exact op_cat pins s σ H _ _ v u Q I rx ry ⟨a, b, vs, ws, rfl, rfl, h1, h2, by rw [r1.length, r2.length]; exact q.1, fun p hp => k _ _ _ q.2 (upd_same' hp) (rep_newL al hp (r1.append r2))⟩
  · have rx' := wx.rep_tup
    have ry' := wy.rep_tup
    obtain ⟨a, vs, rfl, h1, r1⟩ := wx.tup
    obtain ⟨b, ws, rfl, h2, r2⟩ := wy.tup
    rename_i ds es
    refine op_catA pins s σ H _ _ v u Q I rx ry ⟨a, b, vs, ws, rfl, rfl, h1, h2, by rw [r1.length, r2.length]; exact q.1, fun e => ?_, fun _ e => ?_, fun _ _ p hp => k _ _ _ q.2 (upd_same' hp) (rep_newT al hp (r1.append r2))⟩
    · have e1 : ds = [] := r1.nil_iff.mp e
      subst e1
      exact k _ _ H q.2 (.refl H) ry'
    · have e1 : es = [] := r2.nil_iff.mp e
      subst e1
      refine k _ _ H q.2 (.refl H) ?_
      rw [List.append_nil]; exact rx'
  · exact q.elim
theorem op_subD : OpD X (binaryOp .Sub) (iF (fun _ _ => True) fun i j => i - j) := iF_of0 op_sub
theorem op_fdivD : OpD X (binaryOp .FloorDiv) (iF CDiv fun i j => i / j) := iF_of op_fdiv
theorem op_modD : OpD X (binaryOp .Mod) (iF (fun _ j => 0 < j) fun i j => i % j) := iF_of op_mod
theorem op_powD : OpD X (binaryOp .Pow) (iF CPow fun i j => i ^ j.toNat) := iF_of op_pow
theorem tooLong_no {n : Nat} (h : n ≤ sizeLine) : Builtin.Str.tooLong n = false := decide_eq_false (by omega)
def rptS (x : Str) (n : Int) : Str := ⟨(List.replicate n.toNat x.cps.toList).flatten.toArray⟩
def mulF : F2 := fun d e K => match d, e with
  | .int i, .int j => CMul i j ∧ K (.int (i * j))
  | .str x, .int j => 1 ≤ j ∧ j < 2 ^ 20 ∧ x.length * j.toNat ≤ sizeLine ∧ K (.str (rptS x j))
  | .lst xs, .int j => 0 ≤ j ∧ j < 2 ^ 20 ∧ xs.length * j.toNat ≤ sizeLine ∧ K (.lst (List.replicate j.toNat xs).flatten)
  | _, _ => False
theorem Reps.rep {K : PySem.W.Frag} {A : Addr → Prop} {H : Hp} {vs : List V} {ds : List Dat} (r : Reps K A H vs ds) : ∀ n : Nat, Reps K A H (List.replicate n vs).flatten (List.replicate n ds).flatten
  | 0 => .nil
  | n + 1 => by
    rw [List.replicate_succ, List.replicate_succ, List.flatten_cons, List.flatten_cons]
    exact r.append (Reps.rep r n)
theorem foldl_arr {α : Type} (x : Array α) : ∀ (n : Nat) (acc : Array α), ((List.replicate n x).foldl (· ++ ·) acc).toList = acc.toList ++ (List.replicate n x.toList).flatten
  | 0, acc => by simp
  | n + 1, acc => by
    rw [List.replicate_succ, List.foldl_cons, foldl_arr x n, List.replicate_succ, List.flatten_cons, Array.toList_append, List.append_assoc]
theorem op_mulD : OpD X (binaryOp .Mult) mulF := by
  intro pins s σ H x y v u A d e KK Q I rx ry al wx wy q k
  unfold mulF at q; split at q
  · cases wx.int; cases wy.int
    exact op_mul pins s σ H _ _ v u Q I rx ry ⟨_, _, rfl, rfl, q.1, k _ _ H q.2 (.refl H) (.int _)⟩
  · cases wx.str; cases wy.int
    obtain ⟨t, rfl⟩ := rx
    obtain ⟨t', rfl⟩ := ry
    rename_i z j
    obtain ⟨h0, h1, h2, q⟩ := q
    have e63 : (2 : Int) ^ 63 = 9223372036854775808 := by decide
    have e20 : (2 : Int) ^ 20 = 1048576 := by decide
    have hs := sizeLine_eq
    refine PySem.P.mul_str (by
      have e1 : decide (j < -(2 ^ 63 : Int)) = false := decide_eq_false (by omega)
      have e2 : decide (j ≥ 2 ^ 63) = false := decide_eq_false (by omega)
      rw [e1, e2]; rfl) (fun hn _ z1 => ?_) (fun _ => ?_) ?_
    · have hn' : 1 ≤ j := by omega
      have hb : (z.length : Int) * j ≤ 16777216 := by
        have : ((z.length * j.toNat : Nat) : Int) ≤ 16777216 := by have := h2; omega
        rw [Int.natCast_mul, Int.toNat_of_nonneg (by omega)] at this
        exact this
      have h3 : (z.length : Int) ≤ 16777216 := by
        have : (z.length : Int) * 1 ≤ (z.length : Int) * j := Int.mul_le_mul_of_nonneg_left hn' (by omega)
        omega
      have h4 : (16777216 : Int) ≤ (2 ^ 63 - 1) / j := by
        refine (Int.le_ediv_iff_mul_le (by omega)).mpr ?_
        rw [e63]
        have : (16777216 : Int) * j ≤ 16777216 * 1048576 := Int.mul_le_mul_of_nonneg_left (by omega) (by decide)
        omega
      omega
    · exact fun _ => tooLong_no h2
    · rw [if_neg (by omega)]
      have e1 : (⟨(List.replicate j.toNat z.cps).foldl (· ++ ·) #[]⟩ : Str) = rptS z j := by
        unfold rptS
        congr 1
        apply Array.toList_inj.mp
        rw [foldl_arr]; simp
      by_cases c : (j == 1 || z.length == 0) = true
      · rw [if_pos c]
        have e2 : rptS z j = z := by
          unfold rptS
          rcases Bool.or_eq_true_iff.mp c with c | c
          · have : j = 1 := by simpa using c
            subst this
            simp
          · have c0 : z.cps.size = 0 := by simpa [Str.length] using c
            have c1 : z.cps = #[] := Array.eq_empty_of_size_eq_zero c0
            obtain ⟨zc⟩ := z
            simp only at c1
            subst c1
            simp
        exact ⟨.str (rptS z j), H, I, ⟨t, by rw [e2]⟩, k _ _ H q (.refl H) (.str _)⟩
      · rw [if_neg c, e1]
        refine ⟨?_, ⟨.str (rptS z j), H, I.tok _, ⟨_, rfl⟩, k _ _ H q (.refl H) (.str _)⟩⟩
        rw [← e1]
        exact fits_reps (tooLong_no h2)
  · obtain ⟨a, vs, rfl, h1, r1⟩ := wx.seqH
    cases wy.int
    obtain ⟨h0, h2, h3, q⟩ := q
    have e63 : (2 : Int) ^ 63 = 9223372036854775808 := by decide
    have e20 : (2 : Int) ^ 20 = 1048576 := by decide
    exact op_rep pins s σ H _ _ v u Q I rx ry ⟨a, _, vs, rfl, rfl, h1, by omega, by omega, by rw [r1.length]; exact h3, fun p hp => k _ _ _ q (upd_same' hp) (rep_newL al hp (r1.rep _))⟩
  · exact q.elim
end
end DL
/-! DL11: comparisons, slices. -/
namespace DL
open PySem PySem.Spec PyProof.Rows L2
mutual
/-- data that the library knows how to compare and to show -/
def pyd : Dat → Option PyData
  | .non => some .none
  | .bl b => some (.bool b)
  | .int i => some (.int i)
  | .str x => some (.str x)
  | .tup xs => (pyds xs).map .tuple
  | .lst xs => (pyds xs).map .list
  | .scr xs => (pyds xs).map .list
  | .dic _ => none
  | .ins _ _ => none
  | .raw _ => none
def pyds : List Dat → Option (List PyData)
  | [] => some []
  | d :: ds => (pyd d).bind fun p => (pyds ds).map (p :: ·)
end
section
variable {K : PySem.W.Frag} {A : Addr → Prop} {H : Hp}
mutual
theorem dp_of : ∀ {v : V} {d : Dat} {p : PyData}, Rep K A H v d → pyd d = some p → Dp K H v p
  | _, .non, p, .non, e => by simp only [pyd] at e; cases e; exact .non
  | _, .bl b, p, .bl _, e => by simp only [pyd] at e; cases e; exact .bl b
  | _, .int i, p, .int _, e => by simp only [pyd] at e; cases e; exact .int i
  | _, .str x, p, .str _, e => by simp only [pyd] at e; cases e; exact .str x
  | _, .tup ds, p, .tup h n r, e => by
    simp only [pyd] at e
    cases q : pyds ds with
    | none => rw [q] at e; cases e
    | some ps => rw [q] at e; cases e; exact .tup (.inl h) (dp_all r q)
  | _, .tup ds, p, .tupK h r, e => by
    simp only [pyd] at e
    cases q : pyds ds with
    | none => rw [q] at e; cases e
    | some ps => rw [q] at e; cases e; exact .tup (.inr h) (dp_all r q)
  | _, .lst ds, p, .lst h n r, e => by
    simp only [pyd] at e
    cases q : pyds ds with
    | none => rw [q] at e; cases e
    | some ps => rw [q] at e; cases e; exact .lst (.inl (.inl h)) (dp_all r q)
  | _, .scr ds, p, .scr h n r, e => by
    simp only [pyd] at e
    cases q : pyds ds with
    | none => rw [q] at e; cases e
    | some ps => rw [q] at e; cases e; exact .lst (.inl h) (dp_all r q)
  | _, .scr ds, p, .scrK h r, e => by
    simp only [pyd] at e
    cases q : pyds ds with
    | none => rw [q] at e; cases e
    | some ps => rw [q] at e; cases e; exact .lst (.inr h) (dp_all r q)
  | _, .dic _, p, .dic _ _ _, e => by simp only [pyd] at e; cases e
  | _, .ins _ _, p, .ins _ _ _, e => by simp only [pyd] at e; cases e
  | _, .raw _, p, .raw _, e => by simp only [pyd] at e; cases e
theorem dp_all : ∀ {vs : List V} {ds : List Dat} {ps : List PyData}, Reps K A H vs ds → pyds ds = some ps → DpAll K H vs ps
  | _, [], ps, .nil, e => by simp only [pyds] at e; cases e; exact .nil
  | _, d :: ds, ps, .cons h r, e => by
    simp only [pyds] at e
    cases q : pyd d with
    | none => rw [q] at e; cases e
    | some p =>
      rw [q] at e
      cases q2 : pyds ds with
      | none => rw [q2] at e; cases e
      | some ps' => rw [q2] at e; cases e; exact .cons (dp_of h q) (dp_all r q2)
end
theorem RepW.dp {v : V} {d : Dat} {p : PyData} (h : RepW K A H v d) (e : pyd d = some p) : Dp K H v p := by
  cases h with
  | r h => exact dp_of h e
  | @lst a vs ds h r =>
    simp only [pyd] at e
    cases q : pyds ds with
    | none => rw [q] at e; cases e
    | some ps => rw [q] at e; cases e; exact .lst (.inl (.inl h)) (dp_all r q)
  | dic _ _ => simp only [pyd] at e; cases e
  | ins _ _ => simp only [pyd] at e; cases e
end
section
variable {X : Cx} {W : WX} {pos : Pos}
def deepF (neg : Bool) (d e : Dat) (K : Dat → Prop) : Prop := ∃ p q, pyd d = some p ∧ pyd e = some q ∧ SeqAt.shaped p = true ∧ SeqAt.shaped q = true ∧ K (.bl (if neg = true then !PyData.eqv p q else PyData.eqv p q))
def eqF : F2 := fun d e K => match d, e with
  | .int i, .int j => K (.bl (decide (i = j)))
  | .str x, .str y => K (.bl (decide (x = y)))
  | .bl a, .bl b => K (.bl (decide (a = b)))
  | d, e => deepF false d e K
def neF : F2 := fun d e K => match d, e with
  | .int i, .int j => K (.bl (!decide (i = j)))
  | .str x, .str y => K (.bl (!decide (x = y)))
  | .bl a, .bl b => K (.bl (!decide (a = b)))
  | d, e => deepF true d e K
theorem op_eqDD (hu : X.A.units + 64 < cLine) : OpD X (compareOp .Eq) eqF := by
  intro pins s σ H x y v u A d e KK Q I rx ry al wx wy q k
  have deep : deepF false d e KK → wpAny (model X.prog X.w) X.A (compareOp .Eq v u) (EP X pins σ Q) X.xe s := fun ⟨p, p', e1, e2, s1, s2, q⟩ =>
    op_eqD hu pins s σ H x y v u Q I rx ry ⟨p, p', wx.dp e1, wy.dp e2, s1, s2, k _ _ H q (.refl H) (.bl _)⟩
  unfold eqF at q; split at q
  · cases wx.int; cases wy.int
    exact op_eq pins s σ H _ _ v u Q I rx ry ⟨rfl, k _ _ H q (.refl H) (by rw [show decide (V.int _ = V.int _) = _ from decide_eq_decide.mpr ⟨fun h => V.int.inj h, fun h => congrArg _ h⟩]; exact .bl _)⟩
  · cases wx.str; cases wy.str
    exact op_eq pins s σ H _ _ v u Q I rx ry ⟨rfl, k _ _ H q (.refl H) (by rw [show decide (V.str _ = V.str _) = _ from decide_eq_decide.mpr ⟨fun h => V.str.inj h, fun h => congrArg _ h⟩]; exact .bl _)⟩
  · cases wx.bl; cases wy.bl
    exact op_eq pins s σ H _ _ v u Q I rx ry ⟨rfl, k _ _ H q (.refl H) (by rw [show decide (V.bl _ = V.bl _) = _ from decide_eq_decide.mpr ⟨fun h => V.bl.inj h, fun h => congrArg _ h⟩]; exact .bl _)⟩
  · exact deep q
theorem op_neDD (hu : X.A.units + 64 < cLine) : OpD X (compareOp .NotEq) neF := by
  intro pins s σ H x y v u A d e KK Q I rx ry al wx wy q k
  have deep : deepF true d e KK → wpAny (model X.prog X.w) X.A (compareOp .NotEq v u) (EP X pins σ Q) X.xe s := fun ⟨p, p', e1, e2, s1, s2, q⟩ =>
    op_neD hu pins s σ H x y v u Q I rx ry ⟨p, p', wx.dp e1, wy.dp e2, s1, s2, k _ _ H q (.refl H) (.bl _)⟩
  unfold neF at q; split at q
  · cases wx.int; cases wy.int
    exact op_ne pins s σ H _ _ v u Q I rx ry ⟨rfl, k _ _ H q (.refl H) (by rw [show decide (V.int _ = V.int _) = _ from decide_eq_decide.mpr ⟨fun h => V.int.inj h, fun h => congrArg _ h⟩]; exact .bl _)⟩
  · cases wx.str; cases wy.str
    exact op_ne pins s σ H _ _ v u Q I rx ry ⟨rfl, k _ _ H q (.refl H) (by rw [show decide (V.str _ = V.str _) = _ from decide_eq_decide.mpr ⟨fun h => V.str.inj h, fun h => congrArg _ h⟩]; exact .bl _)⟩
  · cases wx.bl; cases wy.bl
    exact op_ne pins s σ H _ _ v u Q I rx ry ⟨rfl, k _ _ H q (.refl H) (by rw [show decide (V.bl _ = V.bl _) = _ from decide_eq_decide.mpr ⟨fun h => V.bl.inj h, fun h => congrArg _ h⟩]; exact .bl _)⟩
  · exact deep q
/-- order of ints and of texts: by functions -/
def cmF (f : Int → Int → Bool) (h : List Nat → List Nat → Bool) : F2 := fun d e K => match d, e with
  | .int i, .int j => K (.bl (f i j))
  | .str x, .str y => K (.bl (h x.cps.toList y.cps.toList))
  | _, _ => False
abbrev ltF : F2 := cmF (fun i j => decide (i < j)) fun x y => decide (x < y)
abbrev leF : F2 := cmF (fun i j => decide (i ≤ j)) fun x y => !decide (y < x)
abbrev gtF : F2 := cmF (fun i j => decide (j < i)) fun x y => decide (y < x)
abbrev geF : F2 := cmF (fun i j => decide (j ≤ i)) fun x y => !decide (x < y)
theorem cm_of {op : CmpOp} {f : Int → Int → Bool} {g : List Nat → List Nat → Bool} (h1 : OpR X (compareOp op) (rI0 fun i j => .bl (f i j))) (h2 : OpR X (compareOp op) (fun x y H Q => ∃ i j, x = .str i ∧ y = .str j ∧ Q (.bl (g i.cps.toList j.cps.toList)) H)) : OpD X (compareOp op) (cmF f g) := by
  intro pins s σ H x y v u A d e KK Q I rx ry al wx wy q k
  unfold cmF at q; split at q
  · cases wx.int; cases wy.int
    exact h1 pins s σ H _ _ v u Q I rx ry ⟨_, _, rfl, rfl, k _ _ H q (.refl H) (.bl _)⟩
  · cases wx.str; cases wy.str
    exact h2 pins s σ H _ _ v u Q I rx ry ⟨_, _, rfl, rfl, k _ _ H q (.refl H) (.bl _)⟩
  · exact q.elim
theorem op_ltD : OpD X (compareOp .Lt) ltF := cm_of op_lt op_lt_str
theorem op_leD : OpD X (compareOp .LtE) leF := cm_of op_le op_le_str
theorem op_gtD : OpD X (compareOp .Gt) gtF := cm_of op_gt op_gt_str
theorem op_geD : OpD X (compareOp .GtE) geF := cm_of op_ge op_ge_str
/-! ### is -/
def isNon : Dat → Bool
  | .non => true
  | _ => false
def noRaw : Dat → Prop
  | .raw _ => False
  | _ => True
def isF (neg : Bool) : F2 := fun d e K => match e with
  | .non => noRaw d ∧ K (.bl (if neg = true then !isNon d else isNon d))
  | .bl b => (match d with
    | .bl a => K (.bl (if neg = true then !decide (a = b) else decide (a = b)))
    | _ => False)
  | _ => False
theorem isNon_ok {K : PySem.W.Frag} {A : Addr → Prop} {H : Hp} {v : V} {d : Dat} (w : RepW K A H v d) (h : noRaw d) : decide (v = .non) = isNon d := by
  cases w with
  | r r => cases r <;> first | rfl | exact h.elim
  | lst _ _ => rfl
  | dic _ _ => rfl
  | ins _ _ => rfl
theorem op_isD : OpD X (compareOp .Is) (isF false) := by
  intro pins s σ H x y v u A d e KK Q I rx ry al wx wy q k
  unfold isF at q; split at q
  · cases wy.non
    refine op_isN pins s σ H _ _ v u Q I rx ry ⟨rfl, k _ _ H q.2 (.refl H) ?_⟩
    rw [isNon_ok wx q.1]; exact .bl _
  · split at q
    · cases wy.bl; cases wx.bl
      exact op_is_bl pins s σ H _ _ v u Q I rx ry ⟨_, _, rfl, rfl, k _ _ H q (.refl H) (.bl _)⟩
    · exact q.elim
  · exact q.elim
theorem op_isnD : OpD X (compareOp .IsNot) (isF true) := by
  intro pins s σ H x y v u A d e KK Q I rx ry al wx wy q k
  unfold isF at q; split at q
  · cases wy.non
    refine op_notN pins s σ H _ _ v u Q I rx ry ⟨rfl, k _ _ H q.2 (.refl H) ?_⟩
    rw [isNon_ok wx q.1]; exact .bl _
  · split at q
    · cases wy.bl; cases wx.bl
      refine op_isnot_bl pins s σ H _ _ v u Q I rx ry ⟨_, _, rfl, rfl, k _ _ H q (.refl H) (.bl _)⟩
    · exact q.elim
  · exact q.elim
/-! ### in -/
def scV : Dat → Option V
  | .non => some .non
  | .bl b => some (.bl b)
  | .int i => some (.int i)
  | .str x => some (.str x)
  | _ => none
def scVs : List Dat → Option (List V)
  | [] => some []
  | d :: ds => (scV d).bind fun v => (scVs ds).map (v :: ·)
theorem scV_ok {K : PySem.W.Frag} {A : Addr → Prop} {H : Hp} {v w : V} {d : Dat} (r : Rep K A H v d) (e : scV d = some w) : v = w ∧ flatV w = true := by
  cases r <;> first | (cases e; exact ⟨rfl, rfl⟩) | cases e
theorem scV_okW {K : PySem.W.Frag} {A : Addr → Prop} {H : Hp} {v w : V} {d : Dat} (r : RepW K A H v d) (e : scV d = some w) : v = w ∧ flatV w = true := by
  cases r with
  | r r => exact scV_ok r e
  | lst _ _ => cases e
  | dic _ _ => cases e
  | ins _ _ => cases e
theorem scVs_ok {K : PySem.W.Frag} {A : Addr → Prop} {H : Hp} : ∀ {vs ws : List V} {ds : List Dat}, Reps K A H vs ds → scVs ds = some ws → vs = ws ∧ ws.all flatV = true
  | _, _, _, .nil, e => by cases e; exact ⟨rfl, rfl⟩
  | _, ws, d :: ds, .cons h r, e => by
    unfold scVs at e
    cases q : scV d with
    | none => rw [q] at e; cases e
    | some v =>
      rw [q] at e
      cases q2 : scVs ds with
      | none => rw [q2] at e; cases e
      | some vs =>
        rw [q2] at e
        cases e
        obtain ⟨e1, e2⟩ := scV_ok h q
        obtain ⟨e3, e4⟩ := scVs_ok r q2
        subst e1 e3
        exact ⟨rfl, by rw [List.all_cons, e2, e4]; rfl⟩
def inSc (neg : Bool) (d : Dat) (ds : List Dat) (K : Dat → Prop) : Prop := ∃ v vs, scV d = some v ∧ scVs ds = some vs ∧ K (.bl (if neg = true then !inV v vs else inV v vs))
/-- among texts, among ints (all flat items); one sign in a text; of lists, items of any depth -/
def inF (neg : Bool) : F2 := fun d e K => match e with
  | .str z => (match d with
    | .str x => (∃ c, x = ⟨#[c]⟩ ∧ K (.bl (if neg = true then !decide (c ∈ z.cps.toList) else decide (c ∈ z.cps.toList))))
    | _ => False)
  | .tup ds => inSc neg d ds K
  | .lst ds => inSc neg d ds K ∨ ∃ p ps, pyd d = some p ∧ pyds ds = some ps ∧ SeqAt.shaped p = true ∧ SeqAt.shaped (.list ps) = true ∧ K (.bl (if neg = true then !ps.any (fun z => PyData.eqv z p) else ps.any (fun z => PyData.eqv z p)))
  | .scr ds => inSc neg d ds K
  | _ => False
theorem op_inDD (hu : X.A.units + 65 < cLine) : OpD X (compareOp .In) (inF false) := by
  intro pins s σ H x y v u A d e KK Q I rx ry al wx wy q k
  unfold inF at q; split at q
  · split at q
    · obtain ⟨c, rfl, q⟩ := q
      cases wx.str; cases wy.str
      exact op_in_sign pins s σ H _ _ v u Q I rx ry ⟨c, _, rfl, rfl, k _ _ H q (.refl H) (.bl _)⟩
    · exact q.elim
  · obtain ⟨w, ws, e1, e2, q⟩ := q
    obtain ⟨a, vs, rfl, h, r⟩ := wy.tup
    obtain ⟨rfl, f1⟩ := scV_okW wx e1
    obtain ⟨rfl, f2⟩ := scVs_ok r e2
    exact op_in_seq pins s σ H _ _ v u Q I rx ry ⟨a, vs, rfl, .inr h, f1, f2, k _ _ H q (.refl H) (.bl _)⟩
  · rcases q with q | ⟨p, ps, e1, e2, s1, s2, q⟩
    · obtain ⟨w, ws, e1, e2, q⟩ := q
      obtain ⟨a, vs, rfl, h, r⟩ := wy.seq
      obtain ⟨rfl, f1⟩ := scV_okW wx e1
      obtain ⟨rfl, f2⟩ := scVs_ok r e2
      exact op_in_seq pins s σ H _ _ v u Q I rx ry ⟨a, vs, rfl, .inl h, f1, f2, k _ _ H q (.refl H) (.bl _)⟩
    · exact op_inD hu pins s σ H _ _ v u Q I rx ry ⟨p, ps, wx.dp e1, wy.dp (by simp only [pyd]; rw [e2]; rfl), s1, s2, k _ _ H q (.refl H) (.bl _)⟩
  · obtain ⟨w, ws, e1, e2, q⟩ := q
    obtain ⟨a, vs, rfl, h, r⟩ := wy.scr
    obtain ⟨rfl, f1⟩ := scV_okW wx e1
    obtain ⟨rfl, f2⟩ := scVs_ok r e2
    exact op_in_seq pins s σ H _ _ v u Q I rx ry ⟨a, vs, rfl, .inl h, f1, f2, k _ _ H q (.refl H) (.bl _)⟩
  · exact q.elim
theorem op_ninDD (hu : X.A.units + 65 < cLine) : OpD X (compareOp .NotIn) (inF true) := by
  intro pins s σ H x y v u A d e KK Q I rx ry al wx wy q k
  unfold inF at q; split at q
  · split at q
    · obtain ⟨c, rfl, q⟩ := q
      cases wx.str; cases wy.str
      exact op_notIn_sign pins s σ H _ _ v u Q I rx ry ⟨c, _, rfl, rfl, k _ _ H q (.refl H) (.bl _)⟩
    · exact q.elim
  · obtain ⟨w, ws, e1, e2, q⟩ := q
    obtain ⟨a, vs, rfl, h, r⟩ := wy.tup
    obtain ⟨rfl, f1⟩ := scV_okW wx e1
    obtain ⟨rfl, f2⟩ := scVs_ok r e2
    exact op_notIn_seq pins s σ H _ _ v u Q I rx ry ⟨a, vs, rfl, .inr h, f1, f2, k _ _ H q (.refl H) (.bl _)⟩
  · rcases q with q | ⟨p, ps, e1, e2, s1, s2, q⟩
    · obtain ⟨w, ws, e1, e2, q⟩ := q
      obtain ⟨a, vs, rfl, h, r⟩ := wy.seq
      obtain ⟨rfl, f1⟩ := scV_okW wx e1
      obtain ⟨rfl, f2⟩ := scVs_ok r e2
      exact op_notIn_seq pins s σ H _ _ v u Q I rx ry ⟨a, vs, rfl, .inl h, f1, f2, k _ _ H q (.refl H) (.bl _)⟩
    · exact op_notInD hu pins s σ H _ _ v u Q I rx ry ⟨p, ps, wx.dp e1, wy.dp (by simp only [pyd]; rw [e2]; rfl), s1, s2, k _ _ H q (.refl H) (.bl _)⟩
  · obtain ⟨w, ws, e1, e2, q⟩ := q
    obtain ⟨a, vs, rfl, h, r⟩ := wy.scr
    obtain ⟨rfl, f1⟩ := scV_okW wx e1
    obtain ⟨rfl, f2⟩ := scVs_ok r e2
    exact op_notIn_seq pins s σ H _ _ v u Q I rx ry ⟨a, vs, rfl, .inl h, f1, f2, k _ _ H q (.refl H) (.bl _)⟩
  · exact q.elim
/-! ### signs -/
theorem un_negD : UnD X (unaryOp .USub) (fun d K => match d with | .int i => K (.int (-i)) | _ => False) := by
  intro pins s σ H x v A d KK Q I rx al wx q k
  split at q
  · cases wx.int
    exact un_neg pins s σ H _ v Q I rx ⟨_, rfl, k _ _ H q (.refl H) (.int _)⟩
  · exact q.elim
/-! ### a[i:j] -/
def cutD {α : Type} (xs : List α) (lo hi : Option Int) : List α := (xs.drop (HT.sIx xs.length 0 lo)).take (HT.sIx xs.length xs.length hi - HT.sIx xs.length 0 lo)
def slF (d : Dat) (lo hi : Option Int) (K : Dat → Prop) : Prop := match d with
  | .str z => z.length ≤ sizeLine ∧ K (.str (cutS z lo hi))
  | .tup ds => K (.tup (cutD ds lo hi))
  | .lst ds => K (.lst (cutD ds lo hi))
  | .scr ds => K (.lst (cutD ds lo hi))
  | _ => False
theorem Reps.cut {K : PySem.W.Frag} {A : Addr → Prop} {H : Hp} {vs : List V} {ds : List Dat} (r : Reps K A H vs ds) (lo hi : Option Int) : Reps K A H (cutV vs lo hi) (cutD ds lo hi) := by
  unfold cutV cutD
  rw [r.length]
  exact (r.drop _).take _
def rSlAny (K : PySem.W.Frag) : V → Option Int → Option Int → Hp → VK → Prop := fun x lo hi H Q => rSlA K x lo hi H Q ∨ rSlL K x lo hi H Q ∨ rSlS x lo hi H Q
theorem sl_any : SlR X (rSlAny X.K) := sl_tupA.or (sl_list.or sl_str)
/-- an end of a slice: none is written, or an int -/
abbrev RO := G → Mem → (Option Int → Mem → Prop) → XC → Prop
def liftO (K : PySem.W.Frag) (W : WX) (r : RO) : TO := fun σ H Q => ∃ (A : Addr → Prop) (g : G) (m : Mem) (Kc : Option Int → Mem → Prop) (KE : XC),
  MemOk K A H m ∧ CellsOk K A H σ g m ∧ r g m Kc KE ∧ (∀ c A' m' H', Kc c m' → Step K A m H A' m' H' → Q c H') ∧ ExTo K W A m H KE
abbrev DO (X : Cx) (W : WX) (e : Option Expr) (r : RO) : Prop := PO X e (liftO X.K W r)
theorem PO.imp {e : Option Expr} {t t' : TO} (h : PO X e t) (i : ∀ σ H Q, t' σ H Q → t σ H Q) : PO X e t' := ⟨fun pins s σ H Q I q => h.run pins s σ H Q I (i σ H Q q)⟩
def rO0 : RO := fun _ m K _ => K none m
def rO1 (ra : RE) : RO := fun g m K KE => ra g m (fun c m1 => match view m1 c with
  | .int i => K (some i) m1
  | _ => False) KE
theorem do_none : DO X W none rO0 := PO.imp po_none fun σ H Q ⟨A, g, m, Kc, KE, hm, hc, q, k, ex⟩ => k none A m H q (.refl hm)
theorem do_some {e : Expr} {ra : RE} (h : DE X W e ra) : DO X W (some e) (rO1 ra) := PO.imp (po_some h) fun σ H Q ⟨A, g, m, Kc, KE, hm, hc, q, k, ex⟩ => by
  refine ⟨A, g, m, _, KE, hm, hc, q, fun c A1 m1 x H1 q1 st1 cv1 => ?_, ex⟩
  have w := cv1.w st1.mem
  cases e1 : view m1 c with
  | int i => rw [e1] at q1 w; exact ⟨i, w.int, k _ A1 m1 H1 q1 st1⟩
  | _ => rw [e1] at q1; exact q1.elim
def rSl (ra : RE) (rl rh : RO) : RE := fun g m K KE => ra g m (fun c m1 => rl g m1 (fun l m2 => rh g m2 (fun h m3 => slF (view m3 c) l h fun d => K (.p d) m3) KE) KE) KE
theorem d_sl {e : Expr} {lo hi : Option Expr} {ra : RE} {rl rh : RO} {p2 : Pos} (he : DE X W e ra) (hl : DO X W lo rl) (hh : DO X W hi rh) : DE X W (.Subscript e (.Slice lo hi none p2) pos) (rSl ra rl rh) := by
  refine PE.imp (pe_slice sl_any he hl hh) fun σ H Q ⟨A, g, m, Kc, KE, hm, hc, q, k, ex⟩ => ?_
  refine ⟨A, g, m, _, KE, hm, hc, q, fun c A1 m1 x H1 q1 st1 cv1 => ?_, ex⟩
  refine ⟨A1, g, m1, _, KE, st1.mem, hc.step hm st1, q1, fun l A2 m2 H2 q2 st2 => ?_, ex.step st1⟩
  have st12 := st1.trans st2
  refine ⟨A2, g, m2, _, KE, st2.mem, hc.step hm st12, q2, fun h A3 m3 H3 q3 st3 => ?_, ex.step st12⟩
  have st := st12.trans st3
  have w := ((cv1.step st1.mem st2).step st2.mem st3).w st3.mem
  have fin : ∀ d z H', Kc (.p d) m3 → SameH H3 H' → Rep X.K A3 H' z d → Q z H' := fun d z H' kk sm rp => k _ A3 m3 z H' kk (st.trans (.same st3.mem sm)) rp
  have al := st3.mem.al
  unfold slF at q3
  split at q3
  · rename_i e1
    rw [e1] at w
    cases w.str
    exact .inr (.inr ⟨_, rfl, q3.1, fin _ _ _ q3.2 (.refl H3) (.str _)⟩)
  · rename_i ds e1
    rw [e1] at w
    have w' := w.rep_tup
    obtain ⟨a, vs, rfl, ht, r⟩ := w.tup
    refine .inl ⟨a, vs, rfl, ht, fun hw => ?_, fun hw p hp => fin _ _ _ q3 (upd_same' hp) (rep_newT al hp (r.cut l h))⟩
    have e2 : cutD ds l h = ds := by
      unfold cutD
      rw [r.length] at hw
      rw [hw.1, hw.2]; simp
    rw [e2] at q3
    exact fin _ _ _ q3 (.refl H3) w'
  · rename_i e1
    rw [e1] at w
    obtain ⟨a, vs, rfl, ht, r⟩ := w.seq
    exact .inr (.inl ⟨a, vs, rfl, ht, fun p hp => fin _ _ _ q3 (upd_same' hp) (rep_newL al hp (r.cut l h))⟩)
  · rename_i e1
    rw [e1] at w
    obtain ⟨a, vs, rfl, ht, r⟩ := w.scr
    exact .inr (.inl ⟨a, vs, rfl, ht, fun p hp => fin _ _ _ q3 (upd_same' hp) (rep_newL al hp (r.cut l h))⟩)
  · exact q3.elim
/-! ### a op b op' c -/
def rChain (F F' : F2) (ra rb rc : RE) : RE := fun g m K KE => ra g m (fun c m1 => rb g m1 (fun e m2 => F (view m2 c) (view m2 e) fun d => blD d fun b => if b = true then rc g m2 (fun f m3 => F' (view m3 e) (view m3 f) fun d' => K (.p d') m3) KE else K (.p (.bl false)) m2) KE) KE
theorem chain_run {op op' : CmpOp} {F F' : F2} {a b c : Expr} {ra rb rc : RE} (ho : OpD X (compareOp op) F) (ho' : OpD X (compareOp op') F') (ha : DE X W a ra) (hb : DE X W b rb) (hc : DE X W c rc)
    (hm : lastMarks [op, op'] [b, c] = false := by with_unfolding_all rfl) : DE X W (.Compare a [op, op'] [b, c] pos) (rChain F F' ra rb rc) := by
  refine .mk fun pins s σ H A g m Kc KE I hm' hcl q ex => ?_
  refine Compare_chain (thn (DE.go ha I hm' hcl q ex) fun v s1 ⟨x, H1, A1, m1, c1, I1, r1, st1, cv1, q1⟩ => chain_link (thn (DE.go hb I1 st1.mem (hcl.step hm' st1) q1 (ex.step st1)) fun u s2 ⟨y, H2, A2, m2, c2, I2, r2, st2, cv2, q2⟩ =>
    thn (ho pins s2 σ H2 x y v u A2 _ _ _ (fun z H' => ∃ b, z = .bl b ∧ SameH H2 H' ∧ (if b = true then rc g m2 (fun f m3 => F' (view m3 c2) (view m3 f) fun d' => Kc (.p d') m3) KE else Kc (.p (.bl false)) m2)) I2 r1 r2 st2.mem.al ((cv1.step st1.mem st2).w st2.mem) (cv2.w st2.mem) q2 fun d z H' k sm rp => ?_) fun d s3 ⟨z, H3, I3, r3, bb, e, sm, q3⟩ => ?_)) hm
  · obtain ⟨bb, rfl, k⟩ := blD_ok k
    cases rp
    exact ⟨bb, rfl, sm, k⟩
  · subst e
    cases r3
    have st12 := st1.trans st2
    have st3 : Step X.K A2 m2 H2 A2 m2 H3 := .same st2.mem sm
    refine wpAny_truthy_bool ?_
    cases bb with
    | false => exact ite_ff ⟨.bl false, H3, A2, m2, .p (.bl false), I3, rfl, st12.trans st3, Rep.bl _, q3⟩
    | true =>
      refine ite_tt (chain_last (thn (DE.go hc I3 st3.mem (hcl.step hm' (st12.trans st3)) q3 (ex.step (st12.trans st3))) fun w' s4 ⟨z', H4, A4, m4, c4, I4, r4, st4, cv4, q4⟩ => ?_))
      refine thn (ho' pins s4 σ H4 y z' u w' A4 _ _ _ (fun z H' => ∃ d, Kc (.p d) m4 ∧ SameH H4 H' ∧ Rep X.K A4 H' z d) I4 r2 r4 st4.mem.al (((cv2.step st2.mem st3).step st3.mem st4).w st4.mem) (cv4.w st4.mem) q4 fun d z H' k sm rp => ⟨d, k, sm, rp⟩) fun z s5 h5 => ?_
      exact evp_end hm' ((st12.trans st3).trans st4) (fun d k => k) h5
end
end DL
/-! DL12: enumerate over tuples, lists; ranges. -/
namespace PySem
section
variable {prog : Program} {w : World} {A : Around} {E : Value → Shared → Prop} {s : Shared}
theorem dl_nextT {ia ta : Addr} {j : Nat} {xs : Array Value} {y : Value} {Q : Value → Shared → Prop} (hit : s.heap.IsTupleIter ia ta j) (ht : s.heap.IsTuple ta xs) (hy : xs[j]? = some y)
    (hQ : ∀ h', h'.IsTupleIter ia ta (j + 1) → Heap.SameBut ia s.heap h' → Q y { s with heap := h' }) : wpAny (model prog w) A (Builtin.SmallTypes.nextOf (.ref ia)) Q E s := by
  obtain ⟨oi, hoi, ci, di⟩ := id hit
  obtain ⟨ot, hot, _, nt, dt⟩ := ht
  unfold Builtin.SmallTypes.nextOf
  refine wpAny_bind (wpAny_callSpecial?_slot (name := Str.ofString "__next__") hit.typeIs F.slot_tuple_iterator_next (wpAny_call_entry F.slot_tuple_iterator_next hit.typeIs F.entry_tuple_iterator_next ?_ (F.args_tuple_iterator_next_1 _)))
  show wpAny _ _ (field (.ref ia) 0 >>= _) _ _ s; refine wpAny_bind (wpAny_field hoi di (x := .ref ta) rfl ?_)
  show wpAny _ _ (if (Value.ref ta == Value.none) = true then _ else _) _ _ s; rw [if_neg (show ¬ ((Value.ref ta == Value.none) = true) from Bool.false_ne_true)]
  show wpAny _ _ (field (.ref ia) 1 >>= _) _ _ s; refine wpAny_bind (wpAny_field hoi di (x := .int j 0) rfl ?_)
  show wpAny _ _ (seqItems? (.ref ta) >>= _) _ _ s; refine wpAny_bind (wpAny_seqItems hot dt ?_)
  simp only [Int.toNat_natCast, hy]; refine wpAny_bind (wpAny_setField hoi di (by simp) (wpAny_pure ⟨y, rfl, wpAny_pure (hQ _ ?_ (Heap.SameBut.update ..))⟩))
  exact ⟨_, Heap.get?_update_self _ hoi (Obj.isFreed_of_fields (Obj.data_mapFields di _)), (Obj.cls_mapFields ..).trans ci, by rw [Obj.data_mapFields di]; simp [rawInt]⟩
theorem dl_nextT_end {ia ta : Addr} {j : Nat} {xs : Array Value} {Q : Value → Shared → Prop} (hh : A.handled = none) (hit : s.heap.IsTupleIter ia ta j) (ht : s.heap.IsTuple ta xs) (hy : xs[j]? = none)
    (hE : ∀ h' e, Heap.ExtBut ia s.heap h' → (∃ o, h'.get? e = some o ∧ o.cls = .type "StopIteration") → E (.ref e) { s with heap := h' }) : wpAny (model prog w) A (Builtin.SmallTypes.nextOf (.ref ia)) Q E s := by
  obtain ⟨oi, hoi, ci, di⟩ := id hit
  obtain ⟨ot, hot, _, nt, dt⟩ := ht
  unfold Builtin.SmallTypes.nextOf
  refine wpAny_bind (wpAny_callSpecial?_slot (name := Str.ofString "__next__") hit.typeIs F.slot_tuple_iterator_next (wpAny_call_entry F.slot_tuple_iterator_next hit.typeIs F.entry_tuple_iterator_next ?_ (F.args_tuple_iterator_next_1 _)))
  show wpAny _ _ (field (.ref ia) 0 >>= _) _ _ s; refine wpAny_bind (wpAny_field hoi di (x := .ref ta) rfl ?_)
  show wpAny _ _ (if (Value.ref ta == Value.none) = true then _ else _) _ _ s; rw [if_neg (show ¬ ((Value.ref ta == Value.none) = true) from Bool.false_ne_true)]
  show wpAny _ _ (field (.ref ia) 1 >>= _) _ _ s; refine wpAny_bind (wpAny_field hoi di (x := .int j 0) rfl ?_)
  show wpAny _ _ (seqItems? (.ref ta) >>= _) _ _ s; refine wpAny_bind (wpAny_seqItems hot dt ?_)
  simp only [Int.toNat_natCast, hy]; refine wpAny_bind (wpAny_rule (wpAny_bind (wpAny_setField hoi di (by simp) ?_)))
  show wpAny _ _ (newExc (.type "StopIteration") [] >>= _) _ _ _; refine wpAny_bind ?_; simp only [newExc, newTuple]; refine wpAny_bind (wpAny_newObj_type ?_ (by size_fits))
  refine wpAny_bind (m := firstArgMember _ _) (wpAny_of_eq (a := Value.none) (by first | rfl | (simp only [firstArgMember]; rfl)) ?_); refine wpAny_newObj_type ?_ (by size_fits)
  simp only [raiseNew]; refine wpAny_bind (wpAny_handled ?_); first | rw [show A.in1.handled = none from hh] | rw [hh]
  refine wpAny_bind (wpAny_pure (wpAny_throw ?_)); exact hE _ _ (((Heap.SameBut.update ..).extBut.push _).push _) ⟨_, Heap.get?_push_size _ rfl, rfl⟩
end
theorem dl_drawsT {prog : Program} {w : World} {A : Around} (hh : A.handled = none) (ia ta : Addr) (hne : ta ≠ ia) (xs : Array Value) :
    Draws prog w A ia [ia, ta] xs.size (fun i v => xs[i]? = some v) (fun i h => h.IsTupleIter ia ta i ∧ h.IsTuple ta xs) where
  live := fun _ _ st => ⟨st.1.choose, st.1.choose_spec.1⟩
  frame := fun _ _ _ st hk => ⟨st.1.at fun o e => hk ia (by simp) o e, by
    obtain ⟨o, e, c, r⟩ := st.2
    exact ⟨o, hk ta (by simp) o e, c, r⟩⟩
  item := fun i s Q E hi st hQ => dl_nextT st.1 st.2 (y := xs[i]) (by simp [hi]) fun h' hit' hs' => hQ _ h' s.toks (by simp [hi]) ⟨hit', by
    obtain ⟨o, e, c, r⟩ := st.2
    exact ⟨o, (hs'.2 ta hne).trans e, c, r⟩⟩ hs'
  done := fun s Q E st hE => dl_nextT_end hh st.1 st.2 (by simp) hE
open AutoSeq1 (wpAny_loadPart')
theorem dl_enumT (ta : Addr) (xs : Array Value) (n : Nat) (dct : Option Addr) (sl : Array (Option Value)) :
    Meets (Builtin.«enumerate.__new__» ⟨[.type "enumerate", .ref ta], []⟩) (fun _ R s => s.heap.get? ta = some { cls := .type "tuple", dict := dct, data := .seq xs n, slots := sl } ∧
      R (.ok (.ret (.ref (s.heap.push { cls := .type "tuple_iterator", data := .fields #[.ref ta, .int 0 0] }).objs.size)))
        { s with heap := (s.heap.push { cls := .type "tuple_iterator", data := .fields #[.ref ta, .int 0 0] }).push { cls := .type "enumerate", data := .fields #[.none, .bool false, .ref s.heap.objs.size, rawInt 0, .none, .none] } }) :=
  .of_wp fun prog w A R s h => by
    obtain ⟨hp, g, d, tk, os⟩ := s
    obtain ⟨hl, h⟩ := h
    have hsub := sub_enumerate
    have hT : Heap.IsTuple (Shared.heap ⟨hp, g, d, tk, os⟩) ta xs := ⟨_, hl, rfl, n, rfl⟩
    wp_walk using wpAny_loadPart' hl
    refine wpAny_stack_any fun st => wpAny_pure ?_
    split
    · rename_i c _ _ _ _ _
      cases (c == Value.type "enumerate") <;> (wp_walk using wpAny_loadPart' hl, wpAny_pyIter_tuple hT; exact ⟨_, rfl, h⟩)
    · wp_walk using wpAny_loadPart' hl, wpAny_pyIter_tuple hT
      exact ⟨_, rfl, h⟩
theorem dl_call_enumT {prog : Program} {w : World} {A : Around} {E : Value → Shared → Prop} {s : Shared} {ta : Addr} {xs : Array Value} {Q : Value → Shared → Prop} (ht : s.heap.IsTuple ta xs)
    (h : ∀ h', IsEnum h' (s.heap.objs.size + 1) s.heap.objs.size 0 .none → h'.IsTupleIter s.heap.objs.size ta 0 → h'.objs.size = s.heap.objs.size + 2 → (∀ b o, s.heap.get? b = some o → h'.get? b = some o) → Q (.ref (s.heap.objs.size + 1)) { s with heap := h' }) :
    wpAny (model prog w) A (call (.type "enumerate") [.ref ta]) Q E s := by
  obtain ⟨⟨c, dct, dat, sl⟩, hl, hc, n, hd⟩ := ht
  obtain rfl : c = .type "tuple" := hc
  obtain rfl : dat = .seq xs n := hd
  refine callType_new F.called_enumerate (by decide) (F.typeCall_enumerate_1 _) (F.newCall_enumerate_1 _) (fun obj => F.args_object_init_2 obj _) F.entry_enumerate_new (dl_enumT ta xs n dct sl) ⟨hl, ?_⟩
  have z1 : (s.heap.push { cls := .type "tuple_iterator", data := .fields #[.ref ta, .int 0 0] }).objs.size = s.heap.objs.size + 1 := Heap.size_push ..
  show _ ∧ _
  rw [z1]
  have he : IsEnum ((s.heap.push { cls := .type "tuple_iterator", data := .fields #[.ref ta, .int 0 0] }).push { cls := .type "enumerate", data := .fields #[.none, .bool false, .ref s.heap.objs.size, rawInt 0, .none, .none] }) (s.heap.objs.size + 1) s.heap.objs.size 0 .none := by
    have q := Heap.get?_push_size (s.heap.push { cls := .type "tuple_iterator", data := .fields #[.ref ta, .int 0 0] }) (o := { cls := .type "enumerate", data := .fields #[.none, .bool false, .ref s.heap.objs.size, rawInt 0, .none, .none] }) rfl
    rw [z1] at q; exact q
  exact ⟨⟨_, he, rfl⟩, h _ he ⟨_, Heap.get?_push_of_some _ (Heap.get?_push_size _ rfl), rfl, rfl⟩ (by rw [Heap.size_push, z1]) fun b o x => Heap.get?_push_of_some _ (Heap.get?_push_of_some _ x)⟩
end PySem
namespace DL
open PySem PySem.Spec PyProof.Rows L2
/-- the items of the tuple at a with their places -/
def ItT (K : PySem.W.Frag) (a : Addr) : It :=
  ⟨fun i H => ∃ (xs : List V) (x : V), SqT K H a xs ∧ xs[i]? = some x, fun i H v H' => ∃ T x, v = .ref T ∧ H T = none ∧ H' = upd H T (.tup [.int (i : Nat), x]) ∧ ∀ xs, SqT K H a xs → xs[i]? = some x, fun i H => ∃ xs : List V, SqT K H a xs ∧ xs.length = i⟩
theorem turn_enT {P : Program} {w : World} {K : PySem.W.Frag} {elts : List Expr} {kk : Nat} {tpos : Pos} (a e it : Addr) (hai : a ≠ it) (hae : a ≠ e) :
    Turn P w K (.Tuple elts kk tpos) (ItT K a) [e, it] e (fun i h => (∃ old, IsEnum h e it ((i : Nat) : Int) old) ∧ h.IsTupleIter it a i ∧ e ≠ it) where
  mem := by simp
  obj := fun i h st b hb => by
    obtain ⟨⟨old, he⟩, ⟨o, ho, hc, hd⟩, _⟩ := st
    rcases (by simpa using hb : b = e ∨ b = it) with z | z
    · rw [z]; exact ⟨_, he, fun v q => nomatch q⟩
    · rw [z]; exact ⟨o, ho, fun v q => by rw [hd] at q; cases q⟩
  keep := fun i h h' st k => let ⟨⟨old, he⟩, hi, hne⟩ := st; ⟨⟨old, k e (by simp) _ he⟩, hi.at fun o q => k it (by simp) o q, hne⟩
  item := by
    intro X hP hw hK hc i pins s σ H E I hf st hg
    subst hP hw hK
    obtain ⟨⟨old, he⟩, hit, hne⟩ := st
    obtain ⟨xs, x, hq, hx⟩ := hg
    obtain ⟨its, rv, p, hz⟩ := I.tuple hq
    obtain ⟨u, hu, ru⟩ := rv.get hx
    have hel : e < s.heap.objs.size := Heap.lt_size he
    have hil : it < s.heap.objs.size := by obtain ⟨_, q, _⟩ := hit; exact Heap.lt_size q
    have hlt : i < its.toArray.size := by
      have := (List.getElem?_eq_some_iff.mp hu).1
      simpa using this
    have D := dl_drawsT (prog := X.prog) (w := X.w) (A := X.A.in1) (show X.A.in1.handled = none from I.ok.hd hc) it a hai its.toArray
    refine wpAny_pyNext_enum_itemD D he ⟨hit, p⟩ hlt hne (by simp [hne, Ne.symm hae]) fun y h' tk hy ho hst' hT hsz hk => ?_
    obtain ⟨hit', p'⟩ := hst'
    have ey : y = u := by
      rw [← Array.getElem?_toList] at hy
      rw [hu] at hy; exact (Option.some.inj hy).symm
    subst ey
    refine ⟨_, rfl, wpAny_letOwnedTupleGo_enum (s := { s with heap := h', toks := tk + 1 }) ho fun h'' he' sb => ?_⟩
    have hT2 : h''.get? s.heap.objs.size = some { cls := .type "tuple", data := .seq #[.int i tk, y] } := (sb.2 _ (Nat.ne_of_gt hel)).trans hT
    have new : ObjOk X.prog X.w (upd H s.heap.objs.size (.tup [.int (i : Nat), x])) h'' s.heap.objs.size (.tup [.int (i : Nat), x]) :=
      ⟨by show 2 ≤ sizeLine; decide, [.int i tk, y], .cons ⟨_, rfl⟩ (.cons ru .nil), ⟨_, hT2, rfl, _, rfl⟩⟩
    have I1 : Inv X pins σ (upd H s.heap.objs.size (.tup [.int (i : Nat), x])) { s with heap := h'', toks := tk + 1 } :=
      I.turnedNew (ch := [e, it]) (fun b ob hb q => (sb.2 b (fun z => hb (by simp [z]))).trans (hk b ob (fun z => hb (by simp [z])) (fun z => hb (by simp [z])) q)) hf (Nat.le_refl _) new
    refine ⟨.ref s.heap.objs.size, _, I1, rfl, ⟨_, x, rfl, I.hok.fresh (Nat.le_refl _), rfl, fun ys hy => by rw [I.tuple_inj hy hq]; exact hx⟩, ⟨⟨y, ?_⟩, hit'.at fun o q => (sb.2 it (Ne.symm hne)).trans q, hne⟩, fun b hb => ?_⟩
    · have e1 : ((i + 1 : Nat) : Int) = (i : Int) + 1 := by omega
      rw [e1]; exact he'
    · have hb' : b < s.heap.objs.size := by
        rcases (by simpa using hb : b = e ∨ b = it) with z | z
        · rw [z]; exact hel
        · rw [z]; exact hil
      rw [upd_ne (Nat.ne_of_lt hb')]
      exact (hf b hb).1
  done := by
    intro X hP hw hK hc i pins s σ H E I hf st hg
    subst hP hw hK
    obtain ⟨⟨old, he⟩, hit, hne⟩ := st
    obtain ⟨xs, hq, hx⟩ := hg
    obtain ⟨its, rv, p, hz⟩ := I.tuple hq
    obtain ⟨f0, f1, f2, f3, f4, f5⟩ := hf it (by simp)
    have hl := rv.length
    have hi : its.toArray.size = i := by simp; omega
    have D := dl_drawsT (prog := X.prog) (w := X.w) (A := X.A.in1) (show X.A.in1.handled = none from I.ok.hd hc) it a hai its.toArray
    exact wpAny_pyNext_enum_endD D he (by rw [hi]; exact ⟨hit, p⟩) fun h' eb => ⟨rfl, I.turned (t' := s.toks) (fun b o hb q => eb b o hb q) f0 f1 f3 f4 f5⟩
  self := fun A i s Q E st h => let ⟨⟨_, he⟩, _⟩ := st; wpAny_pyIter_enum he h
end DL
/-! DL13: built-in functions; what else is walked. -/
namespace DL
open PySem PySem.Spec PyProof.Rows L2
theorem repws1 {K : PySem.W.Frag} {A : Addr → Prop} {H : Hp} {xs : List V} {d : Dat} (h : RepWs K A H xs [d]) : ∃ x, xs = [x] ∧ RepW K A H x d := by
  cases h with
  | cons a b => cases b; exact ⟨_, rfl, a⟩
theorem repws2 {K : PySem.W.Frag} {A : Addr → Prop} {H : Hp} {xs : List V} {d e : Dat} (h : RepWs K A H xs [d, e]) : ∃ x y, xs = [x, y] ∧ RepW K A H x d ∧ RepW K A H y e := by
  cases h with
  | cons a b =>
    obtain ⟨y, rfl, w⟩ := repws1 b
    exact ⟨_, _, rfl, a, w⟩
section
variable {X : Cx} {W : WX} {pos : Pos}
def c1F (f : Dat → (Dat → Prop) → Prop) : FC := fun ds K => match ds with
  | [d] => f d K
  | _ => False
def c2F (f : Dat → Dat → (Dat → Prop) → Prop) : FC := fun ds K => match ds with
  | [d, e] => f d e K
  | _ => False
theorem c1_of {f : Value} {F : F1} (h : ∀ (pins : List (Addr × Obj)) (s : Shared) (σ : L2.St) (H : Hp) (x : V) (us : List Value) (A : Addr → Prop) (d : Dat) (KK : Dat → Prop) (Q : VK), Inv X pins σ H s → Vals [x] us → Al A H → RepW X.K A H x d → F d KK →
    (∀ d' z H', KK d' → SameH H H' → Rep X.K A H' z d' → Q z H') → wpAny (model X.prog X.w) X.A (call f us) (EP X pins σ Q) X.xe s) : CallD X f (c1F F) := by
  intro pins s σ H xs us A ds KK Q I r al w q k
  match ds, w, q with
  | [d], w, q =>
    obtain ⟨x, rfl, w1⟩ := repws1 w
    exact h pins s σ H x us A d KK Q I r al w1 q k
theorem c2_of {f : Value} {F : F2} (h : ∀ (pins : List (Addr × Obj)) (s : Shared) (σ : L2.St) (H : Hp) (x y : V) (us : List Value) (A : Addr → Prop) (d e : Dat) (KK : Dat → Prop) (Q : VK), Inv X pins σ H s → Vals [x, y] us → Al A H → RepW X.K A H x d → RepW X.K A H y e → F d e KK →
    (∀ d' z H', KK d' → SameH H H' → Rep X.K A H' z d' → Q z H') → wpAny (model X.prog X.w) X.A (call f us) (EP X pins σ Q) X.xe s) : CallD X f (c2F F) := by
  intro pins s σ H xs us A ds KK Q I r al w q k
  match ds, w, q with
  | [d, e], w, q =>
    obtain ⟨x, y, rfl, w1, w2⟩ := repws2 w
    exact h pins s σ H x y us A d e KK Q I r al w1 w2 q k
def lenF : F1 := fun d K => match d with
  | .str x => x.length ≤ sizeLine ∧ K (.int x.length)
  | .tup ds => K (.int ds.length)
  | .lst ds => K (.int ds.length)
  | .scr ds => K (.int ds.length)
  | _ => False
theorem call_lenDD : CallD X (.builtin "len") (c1F lenF) := c1_of fun pins s σ H x us A d KK Q I r al w q k => by
  unfold lenF at q; split at q
  · cases w.str
    exact call_len pins s σ H _ us Q I r ⟨_, _, rfl, ⟨q.1, rfl⟩, k _ _ H q.2 (.refl H) (.int _)⟩
  · obtain ⟨a, vs, rfl, h, rr⟩ := w.tup
    exact call_len pins s σ H _ us Q I r ⟨_, _, rfl, .inr ⟨vs, h, rfl⟩, k _ _ H q (.refl H) (by rw [rr.length]; exact .int _)⟩
  · obtain ⟨a, vs, rfl, h, rr⟩ := w.seq
    exact call_len pins s σ H _ us Q I r ⟨_, _, rfl, .inl ⟨vs, h, rfl⟩, k _ _ H q (.refl H) (by rw [rr.length]; exact .int _)⟩
  · obtain ⟨a, vs, rfl, h, rr⟩ := w.scr
    exact call_len pins s σ H _ us Q I r ⟨_, _, rfl, .inl ⟨vs, h, rfl⟩, k _ _ H q (.refl H) (by rw [rr.length]; exact .int _)⟩
  · exact q.elim
def absF : F1 := fun d K => match d with
  | .int i => K (.int (if i < 0 then -i else i))
  | _ => False
theorem call_absD : CallD X (.builtin "abs") (c1F absF) := c1_of fun pins s σ H x us A d KK Q I r al w q k => by
  unfold absF at q; split at q
  · cases w.int
    exact call_abs pins s σ H _ us Q I r ⟨_, rfl, k _ _ H q (.refl H) (.int _)⟩
  · exact q.elim
def maxF : F2 := fun d e K => match d, e with
  | .int i, .int j => K (.int (if j > i then j else i))
  | _, _ => False
def minF : F2 := fun d e K => match d, e with
  | .int i, .int j => K (.int (if j < i then j else i))
  | _, _ => False
theorem call_maxD (hc : X.calm = true) : CallD X (.builtin "max") (c2F maxF) := c2_of fun pins s σ H x y us A d e KK Q I r al w1 w2 q k => by
  unfold maxF at q; split at q
  · cases w1.int; cases w2.int
    exact call_max2 hc pins s σ H _ us Q I r ⟨_, _, rfl, k _ _ H q (.refl H) (.int _)⟩
  · exact q.elim
theorem call_minD (hc : X.calm = true) : CallD X (.builtin "min") (c2F minF) := c2_of fun pins s σ H x y us A d e KK Q I r al w1 w2 q k => by
  unfold minF at q; split at q
  · cases w1.int; cases w2.int
    exact call_min2 hc pins s σ H _ us Q I r ⟨_, _, rfl, k _ _ H q (.refl H) (.int _)⟩
  · exact q.elim
def divmodF : F2 := fun d e K => match d, e with
  | .int i, .int j => CDivP i j ∧ K (.tup [.int (i / j), .int (i % j)])
  | _, _ => False
theorem call_divmodD : CallD X (.builtin "divmod") (c2F divmodF) := c2_of fun pins s σ H x y us A d e KK Q I r al w1 w2 q k => by
  unfold divmodF at q; split at q
  · cases w1.int; cases w2.int
    exact call_divmodW pins s σ H _ us Q I r ⟨_, _, rfl, q.1, fun p hp => k _ _ _ q.2 (upd_same' hp) (rep_newT al hp (.cons (.int _) (.cons (.int _) .nil)))⟩
  · exact q.elim
def strF : F1 := fun d K => match d with
  | .int i => i.natAbs.log2 < 1920 ∧ K (.str (toString i))
  | .str x => K (.str x)
  | _ => False
theorem call_strD : CallD X (.type "str") (c1F strF) := c1_of fun pins s σ H x us A d KK Q I r al w q k => by
  unfold strF at q; split at q
  · cases w.int
    exact call_str_int pins s σ H _ us Q I r ⟨_, rfl, q.1, k _ _ H q.2 (.refl H) (.str _)⟩
  · cases w.str
    exact SkE.call_str_str pins s σ H _ us Q I r ⟨_, rfl, k _ _ H q (.refl H) (.str _)⟩
  · exact q.elim
def intF : F1 := fun d K => match d with
  | .str x => x.length ≤ 640 ∧ (match PySem.intText? x with
    | some n => K (.int n)
    | none => False)
  | _ => False
theorem call_intD : CallD X (.type "int") (c1F intF) := c1_of fun pins s σ H x us A d KK Q I r al w q k => by
  unfold intF at q; split at q
  · cases w.str
    obtain ⟨hl, q⟩ := q
    split at q
    · rename_i n hn
      exact call_int_str pins s σ H _ us Q I r ⟨_, n, rfl, hn, hl, k _ _ H q (.refl H) (.int _)⟩
    · exact q.elim
  · exact q.elim
def tupleF : F1 := fun d K => match d with
  | .tup ds => K (.tup ds)
  | .lst ds => K (.tup ds)
  | .scr ds => K (.tup ds)
  | _ => False
theorem call_tupleD : CallD X (.type "tuple") (c1F tupleF) := c1_of fun pins s σ H x us A d KK Q I r al w q k => by
  unfold tupleF at q; split at q
  · have w' := w.rep_tup
    obtain ⟨a, vs, rfl, h, rr⟩ := w.tup
    exact call_tuple_of pins s σ H _ us Q I r ⟨a, vs, rfl, .inr ⟨h, k _ _ H q (.refl H) w'⟩⟩
  · obtain ⟨a, vs, rfl, h, rr⟩ := w.seq
    exact call_tuple_of pins s σ H _ us Q I r ⟨a, vs, rfl, .inl ⟨h, fun p hp => k _ _ _ q (upd_same' hp) (rep_newT al hp rr)⟩⟩
  · obtain ⟨a, vs, rfl, h, rr⟩ := w.scr
    exact call_tuple_of pins s σ H _ us Q I r ⟨a, vs, rfl, .inl ⟨h, fun p hp => k _ _ _ q (upd_same' hp) (rep_newT al hp rr)⟩⟩
  · exact q.elim
def listF : F1 := fun d K => match d with
  | .tup ds => K (.lst ds)
  | .lst ds => K (.lst ds)
  | .scr ds => K (.lst ds)
  | _ => False
theorem call_listD : CallD X (.type "list") (c1F listF) := c1_of fun pins s σ H x us A d KK Q I r al w q k => by
  unfold listF at q; split at q
  · obtain ⟨a, vs, rfl, h, rr⟩ := w.tup
    exact call_list_of pins s σ H _ us Q I r ⟨a, vs, rfl, .inr h, fun p hp => k _ _ _ q (upd_same' hp) (rep_newL al hp rr)⟩
  · obtain ⟨a, vs, rfl, h, rr⟩ := w.seq
    exact call_list_of pins s σ H _ us Q I r ⟨a, vs, rfl, .inl h, fun p hp => k _ _ _ q (upd_same' hp) (rep_newL al hp rr)⟩
  · obtain ⟨a, vs, rfl, h, rr⟩ := w.scr
    exact call_list_of pins s σ H _ us Q I r ⟨a, vs, rfl, .inl h, fun p hp => k _ _ _ q (upd_same' hp) (rep_newL al hp rr)⟩
  · exact q.elim
/-- a list of bools -/
def blsD : List Dat → Option (List Bool)
  | [] => some []
  | .bl b :: ds => (blsD ds).map (b :: ·)
  | _ => none
theorem bls_ok {K : PySem.W.Frag} {A : Addr → Prop} {H : Hp} : ∀ {vs : List V} {ds : List Dat} {bs : List Bool}, Reps K A H vs ds → blsD ds = some bs → vs = bs.map V.bl
  | _, _, _, .nil, e => by cases e; rfl
  | _, d :: ds, bs, .cons h r, e => by
    cases d with
    | bl b =>
      cases h
      unfold blsD at e
      cases q : blsD ds with
      | none => rw [q] at e; cases e
      | some bs' => rw [q] at e; cases e; rw [bls_ok r q]; rfl
    | _ => cases e
def allF : F1 := fun d K => match d with
  | .lst ds => (match blsD ds with
    | some bs => K (.bl (bs.all id))
    | none => False)
  | _ => False
def anyF : F1 := fun d K => match d with
  | .lst ds => (match blsD ds with
    | some bs => K (.bl (bs.any id))
    | none => False)
  | _ => False
theorem call_allD (hc : X.calm = true) : CallD X (.builtin "all") (c1F allF) := c1_of fun pins s σ H x us A d KK Q I r al w q k => by
  unfold allF at q; split at q
  · obtain ⟨a, vs, rfl, h, rr⟩ := w.seq
    split at q
    · rename_i bs hb
      cases bls_ok rr hb
      exact cr_all hc pins s σ H _ us Q I r ⟨a, _, rfl, h, k _ _ H q (.refl H) (.bl _)⟩
    · exact q.elim
  · exact q.elim
theorem call_anyD (hc : X.calm = true) : CallD X (.builtin "any") (c1F anyF) := c1_of fun pins s σ H x us A d KK Q I r al w q k => by
  unfold anyF at q; split at q
  · obtain ⟨a, vs, rfl, h, rr⟩ := w.seq
    split at q
    · rename_i bs hb
      cases bls_ok rr hb
      exact cr_any hc pins s σ H _ us Q I r ⟨a, _, rfl, h, k _ _ H q (.refl H) (.bl _)⟩
    · exact q.elim
  · exact q.elim
/-- a list of ints -/
def intsD : List Dat → Option (List Int)
  | [] => some []
  | .int b :: ds => (intsD ds).map (b :: ·)
  | _ => none
theorem ints_ok {K : PySem.W.Frag} {A : Addr → Prop} {H : Hp} : ∀ {vs : List V} {ds : List Dat} {bs : List Int}, Reps K A H vs ds → intsD ds = some bs → vs = bs.map V.int
  | _, _, _, .nil, e => by cases e; rfl
  | _, d :: ds, bs, .cons h r, e => by
    cases d with
    | int b =>
      cases h
      unfold intsD at e
      cases q : intsD ds with
      | none => rw [q] at e; cases e
      | some bs' => rw [q] at e; cases e; rw [ints_ok r q]; rfl
    | _ => cases e
theorem ints_reps {K : PySem.W.Frag} {A : Addr → Prop} {H : Hp} : ∀ ns : List Int, Reps K A H (ns.map V.int) (ns.map Dat.int)
  | [] => .nil
  | n :: ns => .cons (.int n) (ints_reps ns)
def sumF : F1 := fun d K => match d with
  | .lst ds => (match intsD ds with
    | some ns => K (.int ns.sum)
    | none => False)
  | _ => False
theorem call_sumD (hc : X.calm = true) : CallD X (.builtin "sum") (c1F sumF) := c1_of fun pins s σ H x us A d KK Q I r al w q k => by
  unfold sumF at q; split at q
  · obtain ⟨a, vs, rfl, h, rr⟩ := w.seq
    split at q
    · rename_i bs hb
      cases ints_ok rr hb
      exact cr_sum hc pins s σ H _ us Q I r ⟨a, _, rfl, h, k _ _ H q (.refl H) (.int _)⟩
    · exact q.elim
  · exact q.elim
def maxLF : F1 := fun d K => match d with
  | .lst ds => (match intsD ds with
    | some ns => 0 < ns.length ∧ ∀ m, m ∈ ns → (∀ y, y ∈ ns → y ≤ m) → K (.int m)
    | none => False)
  | _ => False
def minLF : F1 := fun d K => match d with
  | .lst ds => (match intsD ds with
    | some ns => 0 < ns.length ∧ ∀ m, m ∈ ns → (∀ y, y ∈ ns → m ≤ y) → K (.int m)
    | none => False)
  | _ => False
theorem call_maxLD (hc : X.calm = true) : CallD X (.builtin "max") (c1F maxLF) := c1_of fun pins s σ H x us A d KK Q I r al w q k => by
  unfold maxLF at q; split at q
  · obtain ⟨a, vs, rfl, h, rr⟩ := w.seq
    split at q
    · rename_i bs hb
      cases ints_ok rr hb
      exact cr_max hc pins s σ H _ us Q I r ⟨a, _, rfl, h, q.1, fun m hm hy => k _ _ H (q.2 m hm hy) (.refl H) (.int _)⟩
    · exact q.elim
  · exact q.elim
theorem call_minLD (hc : X.calm = true) : CallD X (.builtin "min") (c1F minLF) := c1_of fun pins s σ H x us A d KK Q I r al w q k => by
  unfold minLF at q; split at q
  · obtain ⟨a, vs, rfl, h, rr⟩ := w.seq
    split at q
    · rename_i bs hb
      cases ints_ok rr hb
      exact cr_min hc pins s σ H _ us Q I r ⟨a, _, rfl, h, q.1, fun m hm hy => k _ _ H (q.2 m hm hy) (.refl H) (.int _)⟩
    · exact q.elim
  · exact q.elim
/-- sorted of ints -/
def sortIF : F1 := fun d K => match d with
  | .lst ds => (match intsD ds with
    | some ns => ∀ ms : List Int, ms.Perm ns → ms.Pairwise (· ≤ ·) → K (.lst (ms.map .int))
    | none => False)
  | .scr ds => (match intsD ds with
    | some ns => ∀ ms : List Int, ms.Perm ns → ms.Pairwise (· ≤ ·) → K (.lst (ms.map .int))
    | none => False)
  | _ => False
theorem call_sortID : CallD X (.builtin "sorted") (c1F sortIF) := c1_of fun pins s σ H x us A d KK Q I r al w q k => by
  unfold sortIF at q; split at q
  · obtain ⟨a, vs, rfl, h, rr⟩ := w.seq
    split at q
    · rename_i bs hb
      cases ints_ok rr hb
      exact cr_sortedI pins s σ H _ us Q I r ⟨a, _, rfl, h, fun ms p h1 h2 hp => k _ _ _ (q ms h1 h2) (upd_same' hp) (rep_newL al hp (ints_reps ms))⟩
    · exact q.elim
  · obtain ⟨a, vs, rfl, h, rr⟩ := w.scr
    split at q
    · rename_i bs hb
      cases ints_ok rr hb
      exact cr_sortedI pins s σ H _ us Q I r ⟨a, _, rfl, h, fun ms p h1 h2 hp => k _ _ _ (q ms h1 h2) (upd_same' hp) (rep_newL al hp (ints_reps ms))⟩
    · exact q.elim
  · exact q.elim
/-! ### repr -/
def isSeq : Dat → Bool
  | .tup _ => true
  | .lst _ => true
  | .scr _ => true
  | _ => false
def reprF : F1 := fun d K => isSeq d = true ∧ ∃ p, pyd d = some p ∧ p.showable = true ∧ p.hasDict = false ∧ p.depth ≤ 64 ∧ p.shown.length ≤ sizeLine ∧ K (.str p.shown)
theorem call_reprD {n : Nat} (hr : Rm n X.A) : CallD X (.builtin "repr") (c1F reprF) := c1_of fun pins s σ H x us A d KK Q I r al w q k => by
  obtain ⟨hs, p, e, h1, h2, h3, h4, q⟩ := q
  have dp := w.dp e
  obtain ⟨u, rfl, ru⟩ := vals1 r
  obtain ⟨as, rd⟩ := Dp.reads I p x u dp ru
  obtain ⟨a, rfl⟩ : ∃ a, u = Value.ref a := by
    cases d with
    | tup ds => obtain ⟨a, vs, rfl, _, _⟩ := w.tup; cases ru; exact ⟨a, rfl⟩
    | lst ds => obtain ⟨a, vs, rfl, _, _⟩ := w.seq; cases ru; exact ⟨a, rfl⟩
    | scr ds => obtain ⟨a, vs, rfl, _, _⟩ := w.scr; cases ru; exact ⟨a, rfl⟩
    | _ => cases hs
  have hu := hr.room.un
  refine PySem.repr_of_reads' rd h1 (fun z => by rw [h2] at z; cases z) hr.gd (by omega) (fun _ _ z => z) (fun h' u' tk hk => ?_) h4
  exact ⟨.str p.shown, H, I.kept hk, ⟨_, rfl⟩, k _ _ H q (.refl H) (.str _)⟩
end
end DL
/-! DL14: isinstance, methods of texts, ranges and pairs that are walked. -/
namespace DL
open PySem PySem.Spec PyProof.Rows L2
/-! ### isinstance -/
def bTypes : List String := ["str", "int", "bool", "tuple", "list", "dict"]
/-- what of the text a class must have for its instances to be asked by isinstance -/
structure InsT (K : PySem.W.Frag) (C : Addr) : Prop where
  cl : Cls K C
  ha : PySem.W.findIn K (.ref C) "__class__" = some (some (.builtin "object.__class__"))
  hn : PySem.W.specialIn K (.builtin "object.__class__") "__get__" = some (some (.builtin "getset_descriptor.__get__"))
  tk : PySem.W.takesIn K (.builtin "object.__class__") = some true
  hm : PySem.W.mroIn K C (.type "object") = some true
  no : ∀ T ∈ bTypes, PySem.W.kitOne K (.ref C) (.type T) = some false
/-- no value of a built-in type is an instance of C -/
structure ClsT (K : PySem.W.Frag) (C : Addr) : Prop where
  no : ∀ T ∈ ["NoneType", "bool", "int", "str", "tuple", "list", "dict"], PySem.W.kitOne K (.type T) (.ref C) = some false
def tyD : Dat → String
  | .non => "NoneType"
  | .bl _ => "bool"
  | .int _ => "int"
  | .str _ => "str"
  | .tup _ => "tuple"
  | .lst _ => "list"
  | .scr _ => "list"
  | .dic _ => "dict"
  | _ => ""
def tyW : Dat → Value
  | .ins C _ => .ref C
  | d => .type (tyD d)
/-- d is a T -/
def isD (T : String) : Dat → Bool
  | .ins _ _ => false
  | .bl _ => T == "bool" || T == "int"
  | d => T == tyD d
def okI (K : PySem.W.Frag) : Dat → Prop
  | .ins C _ => InsT K C
  | .raw _ => False
  | _ => True
section
variable {X : Cx} {W : WX} {pos : Pos}
theorem tyx_of {K : PySem.W.Frag} {A : Addr → Prop} {H : Hp} {v : V} {d : Dat} (w : RepW K A H v d) (h : okI K d) : TyX K H v (tyW d) := by
  cases w with
  | r r =>
    cases r with
    | non => exact .base .non
    | bl b => exact .base (.bl b)
    | int i => exact .base (.int i)
    | str x => exact .base (.str x)
    | tup h1 _ _ =>
      rcases h1 with h1 | ⟨o, h1⟩
      · exact .base (.tup h1)
      · exact .fTuple h1
    | tupK h1 _ => obtain ⟨o, its, n, h1, h2, _⟩ := h1; exact .kTuple h1 h2
    | lst h1 _ _ => exact .base (.lst h1)
    | scr h1 _ _ =>
      rcases h1 with h1 | ⟨o, h1⟩
      · exact .base (.lst h1)
      · exact .base (.frz h1)
    | scrK h1 _ => obtain ⟨o, its, n, h1, h2, _⟩ := h1; exact .kList h1 h2
    | dic h1 _ _ =>
      rcases h1 with h1 | ⟨o, h1⟩
      · exact .base (.dK h1)
      · exact .fDict h1
    | ins h1 _ _ => exact .base (.ins h1 h.cl h.ha h.hn h.tk h.hm)
    | raw v => exact h.elim
  | lst h1 _ => exact .base (.lst h1)
  | dic h1 _ => exact .base (.dK h1)
  | ins h1 _ => exact .base (.ins h1 h.cl h.ha h.hn h.tk h.hm)
theorem kit_b {K : PySem.W.Frag} {d : Dat} {T : String} (hT : T ∈ bTypes) (h : okI K d) : PySem.W.kitOne K (tyW d) (.type T) = some (isD T d) := by
  simp only [bTypes, List.mem_cons, List.mem_nil_iff, or_false] at hT
  cases d with
  | ins C fs => exact h.no T (by simp only [bTypes, List.mem_cons, List.mem_nil_iff, or_false]; exact hT)
  | raw v => exact h.elim
  | _ => rcases hT with rfl | rfl | rfl | rfl | rfl | rfl <;> rfl
/-- isinstance(d, T), T built in -/
def isiF (K : PySem.W.Frag) (T : String) : FC := fun ds KK => match ds with
  | [d, .raw (.ty U)] => U = T ∧ okI K d ∧ KK (.bl (isD T d))
  | _ => False
theorem call_isiB {T : String} (hT : T ∈ bTypes) : CallD X (.builtin "isinstance") (isiF X.K T) := by
  intro pins s σ H xs us A ds KK Q I r al w q k
  unfold isiF at q; split at q
  · obtain ⟨rfl, h, q⟩ := q
    obtain ⟨x, y, rfl, w1, w2⟩ := repws2 w
    cases w2.rawv
    exact call_isi pins s σ H _ us Q I r ⟨x, .ty _, _, _, _, rfl, .ty _, tyx_of w1 h, kit_b hT h, k _ _ H q (.refl H) (.bl _)⟩
  · exact q.elim
/-- d is an instance of C -/
def isC (C : Addr) : Dat → Bool
  | .ins C' _ => decide (C' = C)
  | _ => false
def okC (K : PySem.W.Frag) (C : Addr) : Dat → Prop
  | .ins C' _ => InsT K C' ∧ (C' = C ∨ PySem.W.kitOne K (.ref C') (.ref C) = some false)
  | .raw _ => False
  | _ => True
def isiCF (K : PySem.W.Frag) (C : Addr) : FC := fun ds KK => match ds with
  | [d, .raw (.ref D)] => D = C ∧ okC K C d ∧ KK (.bl (isC C d))
  | _ => False
theorem call_isiC {C : Addr} (ht : ClsT X.K C) : CallD X (.builtin "isinstance") (isiCF X.K C) := by
  intro pins s σ H xs us A ds KK Q I r al w q k
  unfold isiCF at q; split at q
  · rename_i d D
    obtain ⟨rfl, h, q⟩ := q
    obtain ⟨x, y, rfl, w1, w2⟩ := repws2 w
    cases w2.rawv
    have h1 : okI X.K d := by
      cases d <;> first | exact True.intro | exact h.elim | exact h.1
    refine call_isi pins s σ H _ us Q I r ⟨x, .ref _, _, _, _, rfl, .own _, tyx_of w1 h1, ?_, k _ _ H q (.refl H) (.bl _)⟩
    cases d with
    | ins C' fs =>
      show PySem.W.kitOne X.K (.ref C') (.ref D) = some (decide (C' = D))
      by_cases e : C' = D
      · subst e
        rw [decide_eq_true rfl]
        unfold PySem.W.kitOne
        rw [if_pos (beq_self_eq_true _)]
      · rw [decide_eq_false e]
        exact h.2.resolve_left e
    | raw v => exact h.elim
    | _ => exact ht.no _ (by simp [tyD])
  · exact q.elim
/-- a built-in type by its name -/
theorem d_bty {x : Str} {T : String} {p : Pos} (hg : Gl X x) (hm : X.mg x = none) (hv : bootBuiltins x = some (.type T)) (hn : x ≠ "__name__" := by decide) (hdb : (x == ("__debug__" : Str)) = false := by decide) : DE X W (.Name x p) (rC (.raw (.ty T))) :=
  d_con (v := .ty T) (d := .raw (.ty T)) ⟨fun pins s σ H Q I h => ld_blt I hg hm hv ⟨.ty T, H, I, rfl, h⟩ hn hdb⟩ fun _ _ => .raw _
/-! ### methods of texts -/
/-- a list or a tuple of texts -/
def strsD : List Dat → Option (List Str)
  | [] => some []
  | .str b :: ds => (strsD ds).map (b :: ·)
  | _ => none
theorem strs_ok {K : PySem.W.Frag} {A : Addr → Prop} {H : Hp} : ∀ {vs : List V} {ds : List Dat} {bs : List Str}, Reps K A H vs ds → strsD ds = some bs → vs = bs.map V.str
  | _, _, _, .nil, e => by cases e; rfl
  | _, d :: ds, bs, .cons h r, e => by
    cases d with
    | str b =>
      cases h
      unfold strsD at e
      cases q : strsD ds with
      | none => rw [q] at e; cases e
      | some bs' => rw [q] at e; cases e; rw [strs_ok r q]; rfl
    | _ => cases e
theorem strs_reps {K : PySem.W.Frag} {A : Addr → Prop} {H : Hp} : ∀ ns : List Str, Reps K A H (ns.map V.str) (ns.map Dat.str)
  | [] => .nil
  | n :: ns => .cons (.str n) (strs_reps ns)
def joinS (a : Str) (ds : List Dat) (K : Dat → Prop) : Prop := match strsD ds with
  | some ys => (ys.map (·.length)).sum + ys.length * a.length ≤ 16777216 ∧ K (.str (Txt.join a ys))
  | none => False
def joinF : FT := fun d ds K => match d, ds with
  | .str a, [.lst es] => joinS a es K
  | .str a, [.tup es] => joinS a es K
  | _, _ => False
theorem mt_joinD : MtD X.K (fun x xs H Q => ∃ a p, ∃ ys : List Str, x = .str a ∧ xs = [.ref p] ∧ (SqL X.K H p (ys.map V.str) ∨ SqT X.K H p (ys.map V.str)) ∧ (ys.map (·.length)).sum + ys.length * a.length ≤ 16777216 ∧ Q (.str (Txt.join a ys)) H) joinF := by
  intro H x xs A d ds KK Q al w ws q k
  unfold joinF at q; split at q
  · cases w.str
    obtain ⟨y, rfl, wy⟩ := repws1 ws
    obtain ⟨p, vs, rfl, h, r⟩ := wy.seq
    unfold joinS at q; split at q
    · rename_i ys hy
      cases strs_ok r hy
      exact ⟨_, p, ys, rfl, rfl, .inl h, q.1, k _ _ H q.2 (.refl H) (.str _)⟩
    · exact q.elim
  · cases w.str
    obtain ⟨y, rfl, wy⟩ := repws1 ws
    obtain ⟨p, vs, rfl, h, r⟩ := wy.tup
    unfold joinS at q; split at q
    · rename_i ys hy
      cases strs_ok r hy
      exact ⟨_, p, ys, rfl, rfl, .inr h, q.1, k _ _ H q.2 (.refl H) (.str _)⟩
    · exact q.elim
  · exact q.elim
def splitF : FT := fun d ds K => match d, ds with
  | .str a, [.str b] => (b.length == 0) = false ∧ a.length + 2 ≤ sizeLine ∧ K (.lst ((Txt.split a b).map .str))
  | _, _ => False
theorem mt_splitD : MtD X.K (fun x xs H Q => ∃ a b, x = .str a ∧ xs = [.str b] ∧ (b.length == 0) = false ∧ a.length + 2 ≤ sizeLine ∧ rNewStrs (Txt.split a b) H Q) splitF := by
  intro H x xs A d ds KK Q al w ws q k
  unfold splitF at q; split at q
  · cases w.str
    obtain ⟨y, rfl, wy⟩ := repws1 ws
    cases wy.str
    exact ⟨_, _, rfl, rfl, q.1, q.2.1, fun p hp => k _ _ _ q.2.2 (upd_same' hp) (rep_newL al hp (strs_reps _))⟩
  · exact q.elim
def partF : FT := fun d ds K => match d, ds with
  | .str a, [.str b] => (b.length == 0) = false ∧ a.length ≤ sizeLine ∧ K (.tup [.str (Txt.partition a b).1, .str (Txt.partition a b).2.1, .str (Txt.partition a b).2.2])
  | _, _ => False
theorem mt_partD : MtD X.K (fun x xs H Q => ∃ a b, x = .str a ∧ xs = [.str b] ∧ (b.length == 0) = false ∧ a.length ≤ sizeLine ∧
    ∀ p, H p = none → Q (.ref p) (upd H p (.tup [.str (Txt.partition a b).1, .str (Txt.partition a b).2.1, .str (Txt.partition a b).2.2]))) partF := by
  intro H x xs A d ds KK Q al w ws q k
  unfold partF at q; split at q
  · cases w.str
    obtain ⟨y, rfl, wy⟩ := repws1 ws
    cases wy.str
    exact ⟨_, _, rfl, rfl, q.1, q.2.1, fun p hp => k _ _ _ q.2.2 (upd_same' hp) (rep_newT al hp (.cons (.str _) (.cons (.str _) (.cons (.str _) .nil))))⟩
  · exact q.elim
section
variable {o e : Expr} {ro : RE} {ra : RA} {apos cpos : Pos} {name : Str} {id : String} {r : V → List V → Hp → VK → Prop} {F : FT}
theorem d_mtS (slot : Slot "str" name id) (hty : typeOf (.builtin id) = pure (.type "method_descriptor")) (hr : MtR X id r) (hF : MtD X.K r F) (ho : DE X W o ro) (ha : DA X W [e] ra) (hbase : attributeBase o name X.env (eval o X.env) = eval o X.env := by rfl)
    (hfew : ((backTo cpos (starEach [e] X.env)).all (fun x => !x.1) && (backToKw cpos (keywordEach [] X.env)).all (fun x => x.1.isSome)
      && decide (([e] : List Expr).length + ([] : List Keyword).length + (if ([] : List Keyword).isEmpty then 0 else 1) < 30)) = true := by rfl)
    (hline : (apos.endLine == cpos.line) = true := by rfl) (hs : starEach [e] X.env = (false, eval e X.env) :: starEach [] X.env := by rfl) (hplain : (backTo cpos (starEach [] X.env)).any (·.1) = false := by rfl) :
    DE X W (.Call (.Attribute o name apos) [e] [] cpos) (rMtS F ro ra) :=
  PE.imp (pe_bm PySem.F.plainAttrs_str slot hty hr ho ha hbase hfew hline hs hplain) fun _ _ _ h => mtS_lift hF h
end
theorem d_join {o e : Expr} {ro : RE} {ra : RA} {apos cpos : Pos} (ho : DE X W o ro) (ha : DA X W [e] ra) (hbase : attributeBase o "join" X.env (eval o X.env) = eval o X.env := by rfl)
    (hfew : ((backTo cpos (starEach [e] X.env)).all (fun x => !x.1) && (backToKw cpos (keywordEach [] X.env)).all (fun x => x.1.isSome)
      && decide (([e] : List Expr).length + ([] : List Keyword).length + (if ([] : List Keyword).isEmpty then 0 else 1) < 30)) = true := by rfl)
    (hline : (apos.endLine == cpos.line) = true := by rfl) (hs : starEach [e] X.env = (false, eval e X.env) :: starEach [] X.env := by rfl) (hplain : (backTo cpos (starEach [] X.env)).any (·.1) = false := by rfl) : DE X W (.Call (.Attribute o "join" apos) [e] [] cpos) (rMtS joinF ro ra) :=
  d_mtS PySem.F.slot_str_join PySem.F.type_str_join mt_join mt_joinD ho ha hbase hfew hline hs hplain
theorem d_split {o e : Expr} {ro : RE} {ra : RA} {apos cpos : Pos} (ho : DE X W o ro) (ha : DA X W [e] ra) (hbase : attributeBase o "split" X.env (eval o X.env) = eval o X.env := by rfl)
    (hfew : ((backTo cpos (starEach [e] X.env)).all (fun x => !x.1) && (backToKw cpos (keywordEach [] X.env)).all (fun x => x.1.isSome)
      && decide (([e] : List Expr).length + ([] : List Keyword).length + (if ([] : List Keyword).isEmpty then 0 else 1) < 30)) = true := by rfl)
    (hline : (apos.endLine == cpos.line) = true := by rfl) (hs : starEach [e] X.env = (false, eval e X.env) :: starEach [] X.env := by rfl) (hplain : (backTo cpos (starEach [] X.env)).any (·.1) = false := by rfl) : DE X W (.Call (.Attribute o "split" apos) [e] [] cpos) (rMtS splitF ro ra) :=
  d_mtS PySem.F.slot_str_split PySem.F.type_str_split mt_split mt_splitD ho ha hbase hfew hline hs hplain
theorem d_part {o e : Expr} {ro : RE} {ra : RA} {apos cpos : Pos} (ho : DE X W o ro) (ha : DA X W [e] ra) (hbase : attributeBase o "partition" X.env (eval o X.env) = eval o X.env := by rfl)
    (hfew : ((backTo cpos (starEach [e] X.env)).all (fun x => !x.1) && (backToKw cpos (keywordEach [] X.env)).all (fun x => x.1.isSome)
      && decide (([e] : List Expr).length + ([] : List Keyword).length + (if ([] : List Keyword).isEmpty then 0 else 1) < 30)) = true := by rfl)
    (hline : (apos.endLine == cpos.line) = true := by rfl) (hs : starEach [e] X.env = (false, eval e X.env) :: starEach [] X.env := by rfl) (hplain : (backTo cpos (starEach [] X.env)).any (·.1) = false := by rfl) : DE X W (.Call (.Attribute o "partition" apos) [e] [] cpos) (rMtS partF ro ra) :=
  d_mtS PySem.F.slot_str_partition PySem.F.type_str_partition mt_partition mt_partD ho ha hbase hfew hline hs hplain
/-! ### range -/
def rngD (lo : Int) (n : Nat) : List Dat := (List.range n).map fun i => .int (lo + (i : Nat))
theorem rngD_len (lo : Int) (n : Nat) : (rngD lo n).length = n := by unfold rngD; simp
theorem walk_rng {K : PySem.W.Frag} {A : Addr → Prop} {m : Mem} {H : Hp} {lo : Int} {n : Nat} {st : Mem → Prop} : WalkOk K (Itr lo n) A m H st (rngD lo n) := by
  refine ⟨fun A' m' H' g hm' s => ?_, fun i d A' m' H' g hm' s hd => ?_⟩
  · show n ≤ _
    rw [rngD_len]
    exact Nat.le_refl _
  · unfold rngD at hd
    rw [List.getElem?_map] at hd
    cases e : (List.range n)[i]? with
    | none => rw [e] at hd; cases hd
    | some j =>
      rw [e] at hd
      have hd' := Option.some.inj hd
      obtain ⟨h1, h2⟩ := List.getElem?_eq_some_iff.mp e
      rw [List.length_range] at h1
      rw [List.getElem_range] at h2
      refine ⟨h1, fun x H'' y => ?_⟩
      obtain ⟨rfl, rfl⟩ := y
      refine ⟨SameH.refl _, ?_⟩
      rw [← hd', ← h2]
      exact .int _
def rRg1 (ra : RA) : RI := fun g m K KE => ra g m (fun cs m1 => match cs.map (view m1) with
  | [.int j] => (-(2 ^ 62) ≤ j ∧ j < 2 ^ 62) ∧ K (rngD 0 j.toNat) (fun _ => True) m1
  | _ => False) KE
def rRg2 (ra : RA) : RI := fun g m K KE => ra g m (fun cs m1 => match cs.map (view m1) with
  | [.int i, .int j] => (-(2 ^ 62) ≤ i ∧ i < 2 ^ 62 ∧ -(2 ^ 62) ≤ j ∧ j < 2 ^ 62) ∧ K (rngD i (j - i).toNat) (fun _ => True) m1
  | _ => False) KE
theorem di_rg1 {tg a : Expr} {ra : RA} {p : Pos} (hg : Gl X "range") (hm : X.mg "range" = none) (ha : DA X W [a] ra) (hs : starEach [a] X.env = [(false, eval a X.env)] := by rfl) : DI X W tg (.Call (.Name "range" p) [a] [] pos) (rRg1 ra) := by
  refine PI.imp (pi_range1 hg hm ha hs) fun σ H R ⟨A, g, m, Kc, KE, hm, hc, q, k, ex⟩ => ?_
  refine ⟨A, g, m, _, KE, hm, hc, q, fun cs A1 m1 xs H1 q1 st1 cs1 => ?_, ex⟩
  have w := CvsOk.w st1.mem cs1
  cases e : cs.map (view m1) with
  | nil => rw [e] at q1; exact q1.elim
  | cons d ds =>
    rw [e] at q1 w
    cases d with
    | int j =>
      cases ds with
      | nil =>
        obtain ⟨x, rfl, w1⟩ := repws1 w
        cases w1.int
        exact ⟨j, rfl, q1.1.1, q1.1.2, k _ _ A1 m1 _ H1 q1.2 trivial st1 walk_rng⟩
      | cons _ _ => exact q1.elim
    | _ => cases ds <;> exact q1.elim
theorem di_rg2 {tg a b : Expr} {ra : RA} {p : Pos} (hg : Gl X "range") (hm : X.mg "range" = none) (ha : DA X W [a, b] ra) (hs : starEach [a, b] X.env = [(false, eval a X.env), (false, eval b X.env)] := by rfl) (hs2 : starEach [b] X.env = [(false, eval b X.env)] := by rfl) : DI X W tg (.Call (.Name "range" p) [a, b] [] pos) (rRg2 ra) := by
  refine PI.imp (pi_range2 hg hm ha hs hs2) fun σ H R ⟨A, g, m, Kc, KE, hm, hc, q, k, ex⟩ => ?_
  refine ⟨A, g, m, _, KE, hm, hc, q, fun cs A1 m1 xs H1 q1 st1 cs1 => ?_, ex⟩
  have w := CvsOk.w st1.mem cs1
  split at q1
  · rename_i i j e
    rw [e] at w
    obtain ⟨x, y, rfl, w1, w2⟩ := repws2 w
    cases w1.int; cases w2.int
    exact ⟨i, j, rfl, q1.1, k _ _ A1 m1 _ H1 q1.2 trivial st1 walk_rng⟩
  · exact q1.elim
/-! ### enumerate -/
def enD : Nat → List Dat → List Dat
  | _, [] => []
  | i, d :: ds => .tup [.int i, d] :: enD (i + 1) ds
theorem enD_len : ∀ (i : Nat) (ds : List Dat), (enD i ds).length = ds.length
  | _, [] => rfl
  | i, _ :: ds => congrArg Nat.succ (enD_len (i + 1) ds)
theorem enD_get : ∀ (n : Nat) (ds : List Dat) (i : Nat) (x : Dat), (enD n ds)[i]? = some x → ∃ d, ds[i]? = some d ∧ x = .tup [.int (n + i : Nat), d]
  | _, [], i, x, h => by simp [enD] at h
  | n, d :: ds, 0, x, h => by
    simp [enD] at h
    exact ⟨d, rfl, by rw [← h]; rfl⟩
  | n, d :: ds, i + 1, x, h => by
    obtain ⟨e, h1, h2⟩ := enD_get (n + 1) ds i x (by simpa [enD] using h)
    exact ⟨e, by simpa using h1, by rw [h2]; congr 4; omega⟩
theorem walk_enL {K : PySem.W.Frag} {A : Addr → Prop} {m : Mem} {H : Hp} {a : Addr} {ds : List Dat} {st : Mem → Prop} 
    (h : ∀ A' m' H', Go (Live m) A A' H H' → MemOk K A' H' m' → st m' → ∃ vs, SqL K H' a vs ∧ Reps K A' H' vs ds) : WalkOk K (Ite K a) A m H st (enD 0 ds) := by
  refine ⟨fun A' m' H' g hm' s => ?_, fun i d A' m' H' g hm' s hd => ?_⟩
  · obtain ⟨vs, h1, h2⟩ := h A' m' H' g hm' s
    exact ⟨vs, h1, by rw [enD_len, h2.length]; exact Nat.le_refl _⟩
  · obtain ⟨vs, h1, h2⟩ := h A' m' H' g hm' s
    obtain ⟨d', hd', rfl⟩ := enD_get 0 ds i d hd
    obtain ⟨v, h3, h4⟩ := h2.get hd'
    refine ⟨⟨vs, v, h1, h3⟩, fun x H'' y => ?_⟩
    obtain ⟨T, x', rfl, hT, rfl, y⟩ := y
    have := y vs h1
    rw [h3] at this; cases this
    exact ⟨upd_same' hT, by rw [Nat.zero_add]; exact rep_newT hm'.al hT (.cons (.int _) (.cons h4 .nil))⟩
theorem walk_enT {K : PySem.W.Frag} {A : Addr → Prop} {m : Mem} {H : Hp} {a : Addr} {ds : List Dat} {st : Mem → Prop} 
    (h : ∀ A' m' H', Go (Live m) A A' H H' → MemOk K A' H' m' → st m' → ∃ vs, SqT K H' a vs ∧ Reps K A' H' vs ds) : WalkOk K (ItT K a) A m H st (enD 0 ds) := by
  refine ⟨fun A' m' H' g hm' s => ?_, fun i d A' m' H' g hm' s hd => ?_⟩
  · obtain ⟨vs, h1, h2⟩ := h A' m' H' g hm' s
    exact ⟨vs, h1, by rw [enD_len, h2.length]⟩
  · obtain ⟨vs, h1, h2⟩ := h A' m' H' g hm' s
    obtain ⟨d', hd', rfl⟩ := enD_get 0 ds i d hd
    obtain ⟨v, h3, h4⟩ := h2.get hd'
    refine ⟨⟨vs, v, h1, h3⟩, fun x H'' y => ?_⟩
    obtain ⟨T, x', rfl, hT, rfl, y⟩ := y
    have := y vs h1
    rw [h3] at this; cases this
    exact ⟨upd_same' hT, by rw [Nat.zero_add]; exact rep_newT hm'.al hT (.cons (.int _) (.cons h4 .nil))⟩
/-- what is walked by enumerate: a list, a tuple, a list that may change -/
def enC (cs : List Cv) (m : Mem) (K : List Dat → (Mem → Prop) → Mem → Prop) : Prop := match cs with
  | [.p (.lst ds)] => K (enD 0 ds) (fun _ => True) m
  | [.p (.tup ds)] => K (enD 0 ds) (fun _ => True) m
  | [.l n i] => (match mget m n i with
    | some (a, .lst ds) => K (enD 0 ds) (fun m => mget m n i = some (a, .lst ds)) m
    | _ => False)
  | _ => False
def rEn (ra : RA) : RI := fun g m K KE => ra g m (fun cs m1 => enC cs m1 K) KE
theorem di_en {e : Expr} {ra : RA} {p tpos : Pos} {elts : List Expr} {kk : Nat} (hg : Gl X "enumerate") (hm : X.mg "enumerate" = none) (ha : DA X W [e] ra) (hs : starEach [e] X.env = [(false, eval e X.env)] := by rfl) :
    DI X W (.Tuple elts kk tpos) (.Call (.Name "enumerate" p) [e] [] pos) (rEn ra) := by
  have two : PI X (.Tuple elts kk tpos) (.Call (.Name "enumerate" p) [e] [] pos) (fun σ H R => liftA X.K W ra σ H fun vs H1 => (∃ a xs, vs = [.ref a] ∧ SqL X.K H1 a xs ∧ R (Ite X.K a) H1) ∨ ∃ a xs, vs = [.ref a] ∧ SqT X.K H1 a xs ∧ R (ItT X.K a) H1) := by
    refine ⟨fun pins s σ H R I h => ?_⟩
    refine Call_ (ld_blt I hg hm boot_enumerate (PyProof.Rows.callWith_type1 (thn (ha.run pos pins s σ H _ I h) fun us s1 ⟨vs, H1, I1, r1, q⟩ => ?_) hs rfl))
    rcases q with ⟨a, xs, ex, hq, q⟩ | ⟨a, xs, ex, hq, q⟩
    · subst ex
      obtain ⟨u, rfl, ru⟩ := vals1 r1
      obtain rfl : u = Value.ref a := ru
      obtain ⟨its, rv, p', hz⟩ := I1.list hq
      refine call_enumerate_list p'.isList fun h' he hit hsz hk => wpAny_pyIter_enum he ?_
      have I2 : Inv X pins σ H1 { s1 with heap := h' } := I1.kept (t' := s1.toks) hk
      refine ⟨s1.heap.objs.size + 1, [s1.heap.objs.size + 1, s1.heap.objs.size], _, _, H1, rfl, I2, turn_enum a (s1.heap.objs.size + 1) s1.heap.objs.size, ⟨⟨.none, he⟩, hit, Nat.succ_ne_self _⟩, fun b hb => ?_, q⟩
      have hle : s1.heap.objs.size ≤ b := by
        rcases (by simpa using hb : b = s1.heap.objs.size + 1 ∨ b = s1.heap.objs.size) with z | z
        · rw [z]; exact Nat.le_add_right _ _
        · rw [z]; exact Nat.le_refl _
      exact I1.fpOk hle (I1.hok.fresh hle)
    · subst ex
      obtain ⟨u, rfl, ru⟩ := vals1 r1
      obtain rfl : u = Value.ref a := ru
      obtain ⟨its, rv, p', hz⟩ := I1.tuple hq
      have hal : a < s1.heap.objs.size := by
        obtain ⟨o, e, _⟩ := p'
        exact Heap.lt_size e
      refine dl_call_enumT p' fun h' he hit hsz hk => wpAny_pyIter_enum he ?_
      have I2 : Inv X pins σ H1 { s1 with heap := h' } := I1.kept (t' := s1.toks) hk
      refine ⟨s1.heap.objs.size + 1, [s1.heap.objs.size + 1, s1.heap.objs.size], _, _, H1, rfl, I2, turn_enT a (s1.heap.objs.size + 1) s1.heap.objs.size (Nat.ne_of_lt hal) (Nat.ne_of_lt (Nat.lt_succ_of_lt hal)), ⟨⟨.none, he⟩, hit, Nat.succ_ne_self _⟩, fun b hb => ?_, q⟩
      have hle : s1.heap.objs.size ≤ b := by
        rcases (by simpa using hb : b = s1.heap.objs.size + 1 ∨ b = s1.heap.objs.size) with z | z
        · rw [z]; exact Nat.le_add_right _ _
        · rw [z]; exact Nat.le_refl _
      exact I1.fpOk hle (I1.hok.fresh hle)
  refine PI.imp two fun σ H R ⟨A, g, m, Kc, KE, hm, hc, q, k, ex⟩ => ?_
  refine ⟨A, g, m, _, KE, hm, hc, q, fun cs A1 m1 xs H1 q1 st1 cs1 => ?_, ex⟩
  have hm1 := st1.mem
  unfold enC at q1
  split at q1
  · rename_i ds
    cases cs1 with
    | cons c1 c2 =>
      cases c2
      have c1' : Rep X.K A1 H1 _ (.lst ds) := c1
      cases c1' with
      | lst h n r =>
        refine .inl ⟨_, _, rfl, .inl (.inl h), k _ _ A1 m1 _ H1 q1 trivial st1 (walk_enL fun A' m' H' g' _ _ => ?_)⟩
        exact ⟨_, .inl (.inl (g'.keep _ _ h fun z => n (hm1.live _ z))), r.go g' hm1.live⟩
  · rename_i ds
    cases cs1 with
    | cons c1 c2 =>
      cases c2
      have c1' : Rep X.K A1 H1 _ (.tup ds) := c1
      cases c1' with
      | tup h n r =>
        refine .inr ⟨_, _, rfl, .inl h, k _ _ A1 m1 _ H1 q1 trivial st1 (walk_enT fun A' m' H' g' _ _ => ?_)⟩
        exact ⟨_, .inl (g'.rd hm1.live h n).1, r.go g' hm1.live⟩
      | tupK h r => exact .inr ⟨_, _, rfl, .inr h, k _ _ A1 m1 _ H1 q1 trivial st1 (walk_enT fun A' m' H' g' _ _ => ⟨_, .inr h, r.go g' hm1.live⟩)⟩
  · rename_i n i
    cases cs1 with
    | cons c1 c2 =>
      cases c2
      obtain ⟨a, lo, h1, rfl⟩ := c1
      rw [h1] at q1
      cases lo with
      | lst ds =>
        obtain ⟨vs, h2, r2⟩ := hm1.atL h1
        refine .inl ⟨a, vs, rfl, .inl (.inl h2), k _ _ A1 m1 _ H1 q1 h1 st1 (walk_enL fun A' m' H' g' hm' s' => ?_)⟩
        obtain ⟨vs', h3, r3⟩ := hm'.atL s'
        exact ⟨vs', .inl (.inl h3), r3⟩
      | _ => exact q1.elim
  · exact q1.elim
end
end DL
/-! DL15: sorted rows: tuples that differ in their first ints and texts. -/
namespace DL
open PySem PySem.Spec PyProof.Rows L2 SrtO PySem.W
section
variable {prog : Program} {w : World} {A : Around} {E : Value → Shared → Prop} {s : Shared} {b fin : Bool} {Q : Bool → Shared → Prop} {shape : Nat → Bool}
def keyI : Value → Int ⊕ List Nat
  | .int i _ => .inl i
  | .str x _ => .inr x.cps.toList
  | _ => .inl 0
theorem keys_of : ∀ {vs : List Value} {i : Nat} {as : List (Int ⊕ List Nat)}, tupItems shape i vs = some as → as = vs.map keyI
  | [], i, as, h => (Option.some.inj (show some [] = some as by simpa [tupItems] using h)).symm
  | v :: vs, i, as, h => by
    cases hs : shape i with
    | false => obtain ⟨n, t, l', rfl, rfl, h'⟩ := tupItems_int hs h; rw [keys_of h']; rfl
    | true => obtain ⟨n, t, l', rfl, rfl, h'⟩ := tupItems_str hs h; rw [keys_of h']; rfl
theorem lexP : ∀ (ps qs : List Value) (i : Nat) (as bs : List (Int ⊕ List Nat)) (rest : List (Value × Value)), tupItems shape i ps = some as → tupItems shape i qs = some bs → ps.length = qs.length →
    (as = bs → KatLex prog w A b fin Q rest (i + ps.length) s) → (as ≠ bs → Q (lexLt itemOrd as bs) s) → KatLex prog w A b fin Q (ps.zip qs ++ rest) i s
  | [], [], i, as, bs, rest, ha, hb, _, h1, _ => by
    have ea : [] = as := Option.some.inj (show some [] = some as by simpa [tupItems] using ha)
    have eb : [] = bs := Option.some.inj (show some [] = some bs by simpa [tupItems] using hb)
    exact h1 (ea.symm.trans eb)
  | [], _ :: _, _, _, _, _, _, _, hl, _, _ => by cases hl
  | _ :: _, [], _, _, _, _, _, _, hl, _, _ => by cases hl
  | p :: ps, q :: qs, i, as, bs, rest, ha, hb, hl, h1, h2 => by
    have hl' : ps.length = qs.length := Nat.succ.inj hl
    cases hs : shape i with
    | false =>
      obtain ⟨n, t, as', rfl, rfl, ha'⟩ := tupItems_int hs ha
      obtain ⟨m, u, bs', rfl, rfl, hb'⟩ := tupItems_int hs hb
      refine kat_cons (wpAny_eqBool_int (kat_go (fun e => kat_yes ?_) fun e => kat_no ?_))
      · obtain rfl : n = m := by simpa using e
        refine lexP ps qs (i + 1) as' bs' rest ha' hb' hl' (fun e => ?_) fun e => ?_
        · have z := h1 (by rw [e])
          rw [List.length_cons] at z
          rw [show i + 1 + ps.length = i + (ps.length + 1) by omega]; exact z
        · have z := h2 fun e2 => e (List.cons.inj e2).2
          rw [lex_self] at z; exact z
      · have hnm : ¬ n = m := by simpa using e
        have z := h2 fun e2 => hnm (Sum.inl.inj (List.cons.inj e2).1)
        rw [lex_diff fun x => hnm (Sum.inl.inj x)] at z
        exact oneLt_any_int z
    | true =>
      obtain ⟨x, t, as', rfl, rfl, ha'⟩ := tupItems_str hs ha
      obtain ⟨y, u, bs', rfl, rfl, hb'⟩ := tupItems_str hs hb
      refine kat_cons (wpAny_eqBool_str (kat_go (fun e => kat_yes ?_) fun e => kat_no ?_))
      · obtain rfl : x = y := of_decide_eq_true e
        refine lexP ps qs (i + 1) as' bs' rest ha' hb' hl' (fun e => ?_) fun e => ?_
        · have z := h1 (by rw [e])
          rw [List.length_cons] at z
          rw [show i + 1 + ps.length = i + (ps.length + 1) by omega]; exact z
        · have z := h2 fun e2 => e (List.cons.inj e2).2
          rw [lex_self] at z; exact z
      · have hxy : ¬ x = y := of_decide_eq_false e
        have hne : x.cps.toList ≠ y.cps.toList := fun e3 => hxy (by
          have := Array.toList_inj.mp e3
          cases x; cases y
          simp only [Str.mk.injEq]
          exact this)
        have z := h2 fun e2 => hne (Sum.inr.inj (List.cons.inj e2).1)
        rw [lex_diff fun x => hne (Sum.inr.inj x)] at z
        exact oneLt_any_str z
theorem tailP : ∀ (rest : List (Value × Value)) (i : Nat), (∀ x ∈ rest, SeqAt.EqAt A s x.1 x.2 true) → Q fin s → KatLex prog w A b fin Q rest i s
  | [], _, _, h => kat_nil h
  | (p, q) :: rest, i, he, h => kat_cons (he (p, q) (List.mem_cons_self ..) prog w _ _ (kat_yes (tailP rest (i + 1) (fun x hx => he x (List.mem_cons_of_mem _ hx)) h)))
/-- the tuple at v has n items, of which the first m are ints and texts as shape says -/
structure RowAt (h : Heap) (shape : Nat → Bool) (m n : Nat) (ks : List (Int ⊕ List Nat)) (v : Value) : Prop where
  ex : ∃ a o xs c, v = .ref a ∧ h.get? a = some o ∧ o.cls = .type "tuple" ∧ o.data = .seq xs c ∧ xs.size = n ∧ tupItems shape 0 (xs.toList.take m) = some ks
def rowK (h : Heap) (m : Nat) : Value → List (Int ⊕ List Nat)
  | .ref a => match h.get? a with
    | some o => (match o.data with
      | .seq xs _ => (xs.toList.take m).map keyI
      | _ => [])
    | none => []
  | _ => []
theorem RowAt.key {h : Heap} {m n : Nat} {ks : List (Int ⊕ List Nat)} {v : Value} (r : RowAt h shape m n ks v) : rowK h m v = ks := by
  obtain ⟨a, o, xs, c, rfl, ho, hc, hd, hn, ht⟩ := r.ex
  show (match h.get? a with
    | some o => (match o.data with
      | .seq xs _ => (xs.toList.take m).map keyI
      | _ => [])
    | none => []) = ks
  rw [ho]
  simp only [hd]
  exact (keys_of ht).symm
theorem RowAt.keeps {h h' : Heap} {m n : Nat} {ks : List (Int ⊕ List Nat)} {v : Value} (r : RowAt h shape m n ks v) (k : ∀ b o, h.get? b = some o → o.cls = .type "tuple" → h'.get? b = some o) : RowAt h' shape m n ks v := by
  obtain ⟨a, o, xs, c, e, ho, hc, hd, hn, ht⟩ := r.ex
  exact ⟨a, o, xs, c, e, k a o ho hc, hc, hd, hn, ht⟩
theorem swo_row (h : Heap) (m : Nat) : Swo fun v u => lexLt itemOrd (rowK h m v) (rowK h m u) := by
  refine ⟨fun x y e => ?_, fun x y z e1 e2 => ?_⟩
  · cases q : lexLt itemOrd (rowK h m y) (rowK h m x) with
    | false => rfl
    | true =>
      have := lex_trans _ _ _ e q
      rw [lex_irrefl] at this; cases this
  · cases q : lexLt itemOrd (rowK h m z) (rowK h m x) with
    | false => rfl
    | true =>
      rcases lex_negTrans _ (rowK h m y) _ q with q | q
      · exact q.symm.trans e2
      · exact q.symm.trans e1
theorem row_cmp {h0 : Heap} {vs : List Value} {m n : Nat} (hm : m ≤ n) (hp : ∀ v ∈ vs, ∃ ks, RowAt s.heap shape m n ks v) (hk : ∀ v ∈ vs, rowK s.heap m v = rowK h0 m v) (hd : ∀ v ∈ vs, ∀ u ∈ vs, rowK s.heap m v = rowK s.heap m u → v = u ∨ m = n) :
    Cmp prog w A s (tuples' true) (fun p => p.1 ∈ vs) (lt2 fun v u => lexLt itemOrd (rowK h0 m v) (rowK h0 m u)) := by
  intro p q hx hy
  show wpAny (model prog w) A (keyLt' (tuples' true) p.1 q.1) (fun r s' => s' = s ∧ r = lexLt itemOrd (rowK h0 m p.1) (rowK h0 m q.1)) (fun _ _ => False) s
  rw [← hk _ hx, ← hk _ hy]
  have hd' := hd _ hx _ hy
  obtain ⟨k1, r1⟩ := hp _ hx
  obtain ⟨k2, r2⟩ := hp _ hy
  rw [r1.key, r2.key] at hd' ⊢
  obtain ⟨a1, o1, xs1, c1, e1, ho1, hc1, hd1, hn1, ht1⟩ := r1.ex
  obtain ⟨a2, o2, xs2, c2, e2, ho2, hc2, hd2, hn2, ht2⟩ := r2.ex
  rw [e1, e2] at hd' ⊢
  refine kat_lt ho1 hd1 ho2 hd2 ?_
  have l1 : xs1.toList.length = n := by rw [Array.length_toList]; exact hn1
  have l2 : xs2.toList.length = n := by rw [Array.length_toList]; exact hn2
  have ez : xs1.toList.zip xs2.toList = (xs1.toList.take m).zip (xs2.toList.take m) ++ (xs1.toList.drop m).zip (xs2.toList.drop m) := by
    rw [← List.zip_append (by rw [List.length_take, List.length_take, l1, l2]), List.take_append_drop, List.take_append_drop]
  rw [ez]
  refine lexP _ _ 0 k1 k2 _ ht1 ht2 (by rw [List.length_take, List.length_take, l1, l2]) (fun e => ?_) fun e => ⟨rfl, rfl⟩
  subst e
  refine tailP _ _ (fun x hx => ?_) ⟨rfl, ?_⟩
  · rcases hd' rfl with z | z
    · cases z
      rw [ho1] at ho2; cases ho2
      rw [hd1] at hd2; cases hd2
      have : x.1 = x.2 := by
        have := List.mem_iff_getElem?.mp hx
        obtain ⟨i, hi⟩ := this
        rw [List.getElem?_zip_eq_some] at hi
        exact Option.some.inj (hi.1.symm.trans hi.2)
      rw [this]; exact SeqAt.EqAt.same _
    · have : xs1.toList.drop m = [] := List.drop_eq_nil_of_le (by omega)
      rw [this] at hx
      simp at hx
  · rw [lex_irrefl, hn1, hn2]
    exact decide_eq_false (Nat.lt_irrefl _)
theorem tups_of {h : Heap} {m n : Nat} (h1 : 1 ≤ m) (hm : m ≤ n) : ∀ {vs : List Value}, (∀ v ∈ vs, ∃ ks, RowAt h shape m n ks v) → ∃ fs, TupsOf h shape vs fs
  | [], _ => ⟨[], .nil⟩
  | v :: vs, hp => by
    obtain ⟨fs, r⟩ := tups_of h1 hm (vs := vs) fun u hu => hp u (List.mem_cons_of_mem _ hu)
    obtain ⟨ks, q⟩ := hp v (List.mem_cons_self ..)
    obtain ⟨a, o, xs, c, e, ho, hc, hd, hn, ht⟩ := q.ex
    obtain ⟨f, l, el⟩ : ∃ f l, xs.toList = f :: l := by
      cases q : xs.toList with
      | nil =>
        have : xs.toList.length = n := by rw [Array.length_toList]; exact hn
        rw [q] at this
        simp at this
        omega
      | cons f l => exact ⟨f, l, rfl⟩
    have hf : xs[0]? = some f := by rw [← Array.getElem?_toList, el]; rfl
    obtain ⟨m', rfl⟩ : ∃ m', m = m' + 1 := ⟨m - 1, by omega⟩
    rw [el, List.take_succ_cons] at ht
    refine ⟨f :: fs, .cons ⟨a, o, xs, c, e, ho, hc, hd, hf, fun hs => ?_, fun hs => ?_⟩ r⟩
    · obtain ⟨i, t, _, z, _⟩ := tupItems_int hs ht; exact ⟨i, t, z⟩
    · obtain ⟨i, t, _, z, _⟩ := tupItems_str hs ht; exact ⟨i, t, z⟩
theorem sorted_rows {l : Addr} {vs : List Value} {m n : Nat} {Q : Value → Shared → Prop} (hl : s.heap.IsList l vs.toArray) (hz : vs.length ≤ sizeLine) (h1 : 1 ≤ m) (hm : m ≤ n) (hp : ∀ v ∈ vs, ∃ ks, RowAt s.heap shape m n ks v)
    (hd : ∀ v ∈ vs, ∀ u ∈ vs, rowK s.heap m v = rowK s.heap m u → v = u ∨ m = n)
    (h : ∀ (h' : Heap) (d : Addr) (out : List Value), Srtd (fun v u => lexLt itemOrd (rowK s.heap m v) (rowK s.heap m u)) out → out.Perm vs → (∀ b o, s.heap.get? b = some o → h'.get? b = some o) → s.heap.objs.size ≤ d → (∃ n, h'.get? d = some (seqObj "list" out.toArray n)) → Q (.ref d) { s with heap := h' }) :
    wpAny (model prog w) A (call (.builtin "sorted") [.ref l]) Q E s := by
  refine sorted_ord (swo_row s.heap m) hl hz (fun h2 hh a ha kk => ?_) fun out hs hb => ?_
  · intro h' keep
    have k1 : ∀ b o, s.heap.get? b = some o → o.cls = .type "tuple" → h'.get? b = some o := fun b o e c => keep b o (kk b o e).1 (kk b o e).2
    have hp' : ∀ v ∈ vs, ∃ ks, RowAt h' shape m n ks v := fun v hv => let ⟨ks, r⟩ := hp v hv; ⟨ks, r.keeps k1⟩
    have ek : ∀ v ∈ vs, rowK h' m v = rowK s.heap m v := fun v hv => let ⟨ks, r⟩ := hp v hv; (r.keeps k1).key.trans r.key.symm
    obtain ⟨fs, ft⟩ := tups_of h1 hm hp'
    refine ⟨tuples' true, fun Q E hq => ?_, row_cmp (s := { s with heap := h' }) hm hp' ek fun v hv u hu e => hd v hv u hu (by rw [← ek v hv, ← ek u hu]; exact e)⟩
    exact tup_kind (s := { s with heap := h' }) (by rw [PyProof.Rows.G.TupsOf.length ft]; omega) ft hq
  · exact h _ _ out hs hb.perm (fun b o e => sortedAll_old e) (Nat.le_succ _) (sortedAll_at s.heap vs out.toArray)
end
/-! ### on data -/
def keyDat : Dat → Int ⊕ List Nat
  | .int i => .inl i
  | .str x => .inr x.cps.toList
  | _ => .inl 0
def dItems (shape : Nat → Bool) : Nat → List Dat → Bool
  | _, [] => true
  | i, .int _ :: ds => !shape i && dItems shape (i + 1) ds
  | i, .str _ :: ds => shape i && dItems shape (i + 1) ds
  | _, _ => false
def keyD (m : Nat) (r : List Dat) : List (Int ⊕ List Nat) := (r.take m).map keyDat
theorem dItems_ok {K : PySem.W.Frag} {A : Addr → Prop} {H : Hp} {shape : Nat → Bool} : ∀ {vs : List V} {us : List Value} {ds : List Dat} {i : Nat}, Reps K A H vs ds → Vals vs us → dItems shape i ds = true → tupItems shape i us = some (ds.map keyDat)
  | _, _, [], i, .nil, .nil, _ => rfl
  | _, _, d :: ds, i, .cons h r, .cons q t, e => by
    cases d with
    | int n =>
      cases h
      obtain ⟨tk, rfl⟩ := q
      have e' : (!shape i && dItems shape (i + 1) ds) = true := e
      obtain ⟨e1, e2⟩ := Bool.and_eq_true_iff.mp e'
      have e3 : shape i = false := by simpa using e1
      show (if shape i = true then none else (tupItems shape (i + 1) _).map (Sum.inl n :: ·)) = _
      rw [e3, dItems_ok r t e2]; rfl
    | str n =>
      cases h
      obtain ⟨tk, rfl⟩ := q
      have e' : (shape i && dItems shape (i + 1) ds) = true := e
      obtain ⟨e1, e2⟩ := Bool.and_eq_true_iff.mp e'
      show (if shape i = true then (tupItems shape (i + 1) _).map (Sum.inr n.cps.toList :: ·) else none) = _
      rw [e1, dItems_ok r t e2]; rfl
    | _ => cases e
/-- rows: as the sort wants them -/
structure RowsOk (shape : Nat → Bool) (m n : Nat) (rs : List (List Dat)) : Prop where
  one : 1 ≤ m
  le : m ≤ n
  row : ∀ r ∈ rs, r.length = n ∧ dItems shape 0 (r.take m) = true
  dif : ∀ (i j : Nat) (ri rj : List Dat), rs[i]? = some ri → rs[j]? = some rj → keyD m ri = keyD m rj → i = j ∨ m = n
def ltR (m : Nat) (a b : List Dat) : Bool := lexLt itemOrd (keyD m a) (keyD m b)
def sortRF : F1 := fun d K => match d with
  | .lst ds => ∃ (rs : List (List Dat)) (shape : Nat → Bool) (m n : Nat), ds = rs.map .tup ∧ RowsOk shape m n rs ∧ ∀ out : List (List Dat), out.Perm rs → out.Pairwise (fun a b => ltR m b a = false) → K (.lst (out.map .tup))
  | _ => False
theorem paired_perm {α β : Type} {R : α → β → Prop} {xs xs' : List α} (p : xs'.Perm xs) : ∀ {ys : List β}, Paired R xs ys → ∃ ys', ys'.Perm ys ∧ Paired R xs' ys' := by
  induction p with
  | nil => intro ys h; exact ⟨ys, List.Perm.refl _, h⟩
  | cons x _ ih =>
    intro ys h
    cases h with
    | cons a r =>
      obtain ⟨ys', p', r'⟩ := ih r
      exact ⟨_ :: ys', p'.cons _, .cons a r'⟩
  | swap x y l =>
    intro ys h
    cases h with
    | cons a r =>
      cases r with
      | cons b r => exact ⟨_ :: _ :: _, List.Perm.swap _ _ _, .cons b (.cons a r)⟩
  | trans _ _ ih1 ih2 =>
    intro ys h
    obtain ⟨y1, p1, r1⟩ := ih2 h
    obtain ⟨y2, p2, r2⟩ := ih1 r1
    exact ⟨y2, p2.trans p1, r2⟩
theorem L2_pair {α β : Type} {R : α → β → Prop} : ∀ {xs : List α} {ys : List β} {i : Nat} {x : α}, Paired R xs ys → xs[i]? = some x → ∃ y, ys[i]? = some y ∧ R x y
  | _, _, _, _, .nil, e => by simp at e
  | _, _, 0, _, .cons h _, e => by simp at e; subst e; exact ⟨_, rfl, h⟩
  | _, _, i + 1, _, .cons _ r, e => by
    obtain ⟨y, h1, h2⟩ := L2_pair (i := i) r (by simpa using e)
    exact ⟨y, by simpa using h1, h2⟩
theorem L2_pairR {α β : Type} {R : α → β → Prop} : ∀ {xs : List α} {ys : List β} {i : Nat} {y : β}, Paired R xs ys → ys[i]? = some y → ∃ x, xs[i]? = some x ∧ R x y
  | _, _, _, _, .nil, e => by simp at e
  | _, _, 0, _, .cons h _, e => by simp at e; subst e; exact ⟨_, rfl, h⟩
  | _, _, i + 1, _, .cons _ r, e => by
    obtain ⟨y, h1, h2⟩ := L2_pairR (i := i) r (by simpa using e)
    exact ⟨y, by simpa using h1, h2⟩
section
variable {X : Cx}
/-- a row as it stands: its value, its data -/
def RowV (X : Cx) (A : Addr → Prop) (H : Hp) (s : Shared) (shape : Nat → Bool) (m n : Nat) (u : Value) (r : List Dat) : Prop := ∃ t, u = .ref t ∧ Rep X.K A H (.ref t) (.tup r) ∧ RowAt s.heap shape m n (keyD m r) u
theorem Vals.take : ∀ {xs : List V} {us : List Value} (n : Nat), Vals xs us → Vals (xs.take n) (us.take n)
  | _, _, 0, _ => .nil
  | _, _, _ + 1, .nil => .nil
  | _, _, n + 1, .cons r t => .cons r (Vals.take n t)
theorem rows_of {pins : List (Addr × Obj)} {s : Shared} {σ : L2.St} {H : Hp} {A : Addr → Prop} {shape : Nat → Bool} {m n : Nat} (I : Inv X pins σ H s) : ∀ {xs : List V} {us : List Value} {rs : List (List Dat)}, Reps X.K A H xs (rs.map .tup) → Vals xs us → (∀ r ∈ rs, r.length = n ∧ dItems shape 0 (r.take m) = true) → Paired (RowV X A H s shape m n) us rs
  | _, _, [], .nil, .nil, _ => .nil
  | _, _, r :: rs, .cons h t, .cons q w, hr => by
    obtain ⟨a, vs, rfl, ht, rr⟩ := (RepW.r h).tup
    obtain ⟨its, rv, ⟨⟨cls, dd, dat, sl⟩, ho, hc, c, hd⟩, hz⟩ := I.tuple ht
    cases q
    obtain ⟨hl, hi⟩ := hr r (List.mem_cons_self ..)
    refine .cons ⟨a, rfl, h, ⟨a, _, its.toArray, c, rfl, ho, hc, hd, ?_, ?_⟩⟩ (rows_of I t w fun r' hr' => hr r' (List.mem_cons_of_mem _ hr'))
    · rw [List.size_toArray, ← rv.length, rr.length]; exact hl
    · have := dItems_ok (rr.take m) (Vals.take m rv) hi
      exact this
theorem call_sortRD : CallD X (.builtin "sorted") (c1F sortRF) := c1_of fun pins s σ H x us A d KK Q I r al w q k => by
  unfold sortRF at q; split at q
  · obtain ⟨rs, shape, m, n, rfl, ok, q⟩ := q
    obtain ⟨a, vs, rfl, h, rr⟩ := w.seq
    obtain ⟨u, rfl, ru⟩ := vals1 r
    obtain rfl : u = Value.ref a := ru
    obtain ⟨its, rv, hl, hz⟩ := I.list h
    have P := rows_of (m := m) I rr rv ok.row
    refine sorted_rows (shape := shape) (m := m) (n := n) hl.isList (by rw [← rv.length]; exact hz) ok.one ok.le (fun v hv => ?_) (fun v hv u hu e => ?_) fun h' dd out hs hp kk hd hn => ?_
    · obtain ⟨i, hi⟩ := List.mem_iff_getElem?.mp hv
      obtain ⟨r1, _, hr⟩ := L2_pair P hi
      obtain ⟨t, _, _, z⟩ := hr
      exact ⟨_, z⟩
    · obtain ⟨i, hi⟩ := List.mem_iff_getElem?.mp hv
      obtain ⟨j, hj⟩ := List.mem_iff_getElem?.mp hu
      obtain ⟨r1, g1, t1, _, _, z1⟩ := L2_pair P hi
      obtain ⟨r2, g2, t2, _, _, z2⟩ := L2_pair P hj
      rw [z1.key, z2.key] at e
      rcases ok.dif i j r1 r2 g1 g2 e with z | z
      · subst z
        rw [hi] at hj
        exact .inl (Option.some.inj hj)
      · exact .inr z
    · obtain ⟨out', p2, P2⟩ := paired_perm hp P
      obtain ⟨nn, hn⟩ := hn
      have hV : ∀ {os : List Value} {ds : List (List Dat)}, Paired (RowV X A H s shape m n) os ds → Vals (os.map backV) os ∧ Reps X.K A H (os.map backV) (ds.map .tup) := by
        intro os ds p
        induction p with
        | nil => exact ⟨.nil, .nil⟩
        | cons a _ ih =>
          obtain ⟨t, rfl, rp, _⟩ := a
          exact ⟨.cons rfl ih.1, .cons rp ih.2⟩
      obtain ⟨v1, v2⟩ := hV P2
      have hdn := I.hok.fresh hd
      refine ⟨.ref dd, upd H dd (.lst (out.map backV)), I.laid (t' := s.toks) kk hd ⟨?_, out, nn, v1, hn⟩, rfl, k _ _ _ (q out' p2 ?_) (upd_same' hdn) (rep_newL al hdn v2)⟩
      · rw [List.length_map, hp.length_eq, ← rv.length]; exact hz
      · refine List.pairwise_iff_getElem.mpr fun i j hi hj hij => ?_
        have e1 : out'[i]? = some out'[i] := List.getElem?_eq_getElem hi
        have e2 : out'[j]? = some out'[j] := List.getElem?_eq_getElem hj
        obtain ⟨u1, g1, t1, _, _, z1⟩ := L2_pairR P2 e1
        obtain ⟨u2, g2, t2, _, _, z2⟩ := L2_pairR P2 e2
        obtain ⟨l1, w1⟩ := List.getElem?_eq_some_iff.mp g1
        obtain ⟨l2, w2⟩ := List.getElem?_eq_some_iff.mp g2
        have e3 := List.pairwise_iff_getElem.mp hs i j l1 l2 hij
        rw [w1, w2] at e3
        have e4 : PyProof.Rows.lexLt itemOrd (rowK s.heap m u2) (rowK s.heap m u1) = false := e3
        rw [z1.key, z2.key] at e4
        exact e4
  · exact q.elim
end
end DL
/-! DLH: what the top leaves, as facts by names: functions at any path, properties, staticmethods, constants. -/
namespace DL
open PySem PySem.Spec PyProof.Rows L2
abbrev Fq := PySem.W.Frag → Bool
abbrev Pth := PySem.W.Frag → Addr
/-- one def: where it stands, its names, parameters, body, scope, defaults -/
structure Dq where
  loc : Pth
  name : Str
  qual : Str
  params : Arguments
  body : List Stmt
  scope : Scope
  dfl : List He.Dv := []
def seen (K : PySem.W.Frag) (a : Addr) : He.FnW := (K.lookup a).bind fun o => match o.data with
  | .func fd => some (fd.name, fd.qualname, fd.params, fd.body, fd.scope, fd.globals, fd.closure, fd.builtins)
  | _ => none
def Dq.val (d : Dq) : He.FnW := some (d.name, d.qual, d.params, .stmts d.body, d.scope, mainGlobals, [], builtinsNs)
def Dq.dvs (K : PySem.W.Frag) (d : Dq) : List V := d.dfl.map (He.Dv.v K)
def Dq.good (K : PySem.W.Frag) (d : Dq) : Bool := PySem.W.keepIn K (.ref (d.loc K)) && (match K.lookup (d.loc K) with
  | some ⟨_, _, .func fd, _⟩ => PySem.W.codeIn K fd.code d.qual && He.dflB K fd.defaults (d.dvs K)
  | _ => false)
theorem Dq.fun_ {K : PySem.W.Frag} {d : Dq} (e : seen K (d.loc K) = d.val) (c : d.good K = true) : ∃ fd, FunD K d.name d.qual d.params d.body d.scope (d.dvs K) [] (d.loc K) fd := by
  obtain ⟨kp, c2⟩ := He.ba c
  unfold seen at e
  cases q : K.lookup (d.loc K) with
  | none => rw [q] at c2; cases c2
  | some o =>
    obtain ⟨oc, od, dt, osl⟩ := o
    rw [q] at c2 e
    cases dt with
    | func fd =>
      obtain ⟨n1, n2, n3, n4, n5, n6, n7, n8, n9, n10, n11, n12, n13, n14, n15⟩ := fd
      have e2 : ((n1, n2, n3, n4, n5, n6, n7, n15) : Str × Str × Arguments × FuncBody × Scope × Addr × List (Str × Addr) × Addr) = (d.name, d.qual, d.params, .stmts d.body, d.scope, mainGlobals, [], builtinsNs) := Option.some.inj e
      simp only [Prod.mk.injEq] at e2
      obtain ⟨h1, h2, h3, h4, h5, h6, h7, h8⟩ := e2
      subst h1 h2 h3 h4 h5 h6 h7 h8
      obtain ⟨k1, k3⟩ := He.ba (show (PySem.W.codeIn K n13 d.qual && He.dflB K n8 (d.dvs K)) = true from c2)
      exact ⟨_, ⟨oc, od, n8, n9, n10, n11, n12, n13, n14, osl, rfl, q, k1, He.dflB_ok k3, .inl rfl⟩, kp⟩
    | _ => cases c2
def obsQ (fa : List Fq) (fn : List Dq) (K : PySem.W.Frag) : He.AlD := ((fa.all fun f => f K) && fn.all fun d => d.good K, fn.map fun d => seen K (d.loc K))
def valQ (fn : List Dq) : He.AlD := (true, fn.map Dq.val)
def Says (fa : List Fq) (fn : List Dq) (K : PySem.W.Frag) : Prop := obsQ fa fn K = valQ fn
def obsQG (n : Nat) (fa : List Fq) (fn : List Dq) (g : Addr → Option Obj) : He.AlD := obsQ fa fn (He.frG g (He5.asA g n))
def hookQ (n : Nat) (fa : List Fq) (fn : List Dq) : PySem.W.Hook where
  α := He.AlD
  obs := fun s => obsQG n fa fn s.heap.get?
  val := fun _ => valQ fn
  says := fun _ h => ∃ K : PySem.W.Frag, K.In h ∧ Says fa fn K
  of := fun _ _ e => ⟨_, He.frG_in, e⟩
  keeps := fun _ _ _ ⟨K, hK, c⟩ k => ⟨K, PySem.W.Frag.In.keeps hK k, c⟩
theorem obsQG_eq {n : Nat} {fa : List Fq} {fn : List Dq} {g : Addr → Option Obj} {s : Shared} (h : ∀ a, g a = s.heap.get? a) : obsQG n fa fn g = (hookQ n fa fn).obs s := by
  rw [show g = s.heap.get? from funext h]; rfl
section
variable {fa : List Fq} {fn : List Dq} {K : PySem.W.Frag}
theorem Says.fact (c : Says fa fn K) {f : Fq} (i : Nat) (h : fa[i]? = some f) : f K = true :=
  List.all_eq_true.mp (He.ba (show ((fa.all fun f => f K) && fn.all fun d => d.good K) = true from congrArg (fun z : He.AlD => z.1) c)).1 f (List.mem_of_getElem? h)
theorem Says.def_ (c : Says fa fn K) {d : Dq} (i : Nat) (h : fn[i]? = some d) : ∃ fd, FunD K d.name d.qual d.params d.body d.scope (d.dvs K) [] (d.loc K) fd := by
  have c2 := (He.ba (show ((fa.all fun f => f K) && fn.all fun d => d.good K) = true from congrArg (fun z : He.AlD => z.1) c)).2
  have e2 := congrArg (fun z : He.AlD => z.2[i]?) c
  have e3 : (fn.map fun d => seen K (d.loc K))[i]? = (fn.map Dq.val)[i]? := e2
  rw [List.getElem?_map, List.getElem?_map, h] at e3
  exact Dq.fun_ (Option.some.inj e3) (List.all_eq_true.mp c2 d (List.mem_of_getElem? h))
end
/-! ### facts -/
def qGlo (x : Str) : Fq := fun K => He.Fa.ok K (.glo x)
def qFree (x : Str) : Fq := fun K => He.Fa.ok K (.free x)
def qInt (x : Str) (i : Int) : Fq := fun K => He.Fa.ok K (.int x i)
def qStr (x z : Str) : Fq := fun K => He.Fa.ok K (.str x z)
def qCls (x : Str) : Fq := fun K => He.Fa.ok K (.cls x)
def qNo (x f : Str) : Fq := fun K => He.Fa.ok K (.noat x f)
def qMeth (x m : Str) : Fq := fun K => He.Fa.ok K (.meth x m)
def qMk (x : Str) : Fq := fun K => He.Fa.ok K (.mkr x)
/-- a property of the class x: its record, its getter -/
def pGet (x f : Str) : Pth := fun K => He5.wf K (He.ga K x) "property" f
def qProp (x f : Str) : Fq := fun K => He.eqO (PySem.W.findIn K (.ref (He.ga K x)) f) (some (some (.ref (He.ma K (He.ga K x) f)))) && (He.eqO (PySem.W.specialIn K (.ref (He.ma K (He.ga K x) f)) "__get__") (some (some (.builtin "property.__get__"))) &&
  (decide (PySem.W.takesIn K (.ref (He.ma K (He.ga K x) f)) = some true) && (match PySem.W.recIn K (He.ma K (He.ga K x) f) "property" with
  | some (.ref _ :: _) => true
  | _ => false)))
theorem qProp_ok {K : PySem.W.Frag} {x f : Str} (h : qProp x f K = true) : PropOf K (He.ga K x) f (He.ma K (He.ga K x) f) (pGet x f K) := by
  obtain ⟨h1, h⟩ := He.ba h
  obtain ⟨h2, h⟩ := He.ba h
  obtain ⟨h3, h4⟩ := He.ba h
  refine ⟨He.eqO_ok h1, He.eqO_ok h2, of_decide_eq_true h3, ?_⟩
  unfold pGet He5.wf
  split at h4
  · rename_i g r e
    exact ⟨r, by rw [e]⟩
  · cases h4
/-- the attributes of the class x are read as usual -/
def qRead (x : Str) : Fq := fun K => PySem.W.readsIn K (He.ga K x) (.type "type") && He.eqO (PySem.W.specialIn K (.ref (He.ga K x)) "__getattribute__") (some (some (.builtin "type.__getattribute__")))
theorem qRead_ok {K : PySem.W.Frag} {x : Str} (h : qRead x K = true) : ClX.CRead K (He.ga K x) (.type "type") := ⟨(He.ba h).1, He.eqO_ok (He.ba h).2⟩
def pSta (x f : Str) : Pth := fun K => He5.wf K (He.ga K x) "staticmethod" f
def qSta (x f : Str) : Fq := fun K => He5.wrapB K (He.ga K x) "staticmethod" "staticmethod.__get__" f && PySem.W.keepIn K (.ref (pSta x f K))
theorem qSta_ok {K : PySem.W.Frag} {x f : Str} (hr : qRead x K = true) (h : qSta x f K = true) : StaM K (He.ga K x) (.type "type") f (He.ma K (He.ga K x) f) (pSta x f K) := by
  obtain ⟨h1, h2⟩ := He.ba h
  obtain ⟨k1, k2⟩ := He5.wrapB_ok h1
  exact ⟨qRead_ok hr, k1, k2, h2⟩
def qStaI (x f : Str) : Fq := fun K => PySem.W.plainGet K (He.ga K x) Str.empty && (PySem.W.isClsIn K (He.ga K x) && (He.eqO (PySem.W.findIn K (.ref (He.ga K x)) f) (some (some (.ref (He.ma K (He.ga K x) f)))) &&
  (decide (PySem.W.typeIn K (.ref (He.ma K (He.ga K x) f)) = some (.type "staticmethod")) && (He.eqO (PySem.W.specialIn K (.ref (He.ma K (He.ga K x) f)) "__get__") (some (some (.builtin "staticmethod.__get__"))) &&
  (decide (PySem.W.takesIn K (.ref (He.ma K (He.ga K x) f)) = some false) && (!PySem.W.copiedNames.contains f))))))
theorem qStaI_ok {K : PySem.W.Frag} {x f : Str} (hs : qSta x f K = true) (h : qStaI x f K = true) : StaI K (He.ga K x) f (He.ma K (He.ga K x) f) (pSta x f K) := by
  obtain ⟨h1, h⟩ := He.ba h
  obtain ⟨h2, h⟩ := He.ba h
  obtain ⟨h3, h⟩ := He.ba h
  obtain ⟨h4, h⟩ := He.ba h
  obtain ⟨h5, h⟩ := He.ba h
  obtain ⟨h6, h7⟩ := He.ba h
  obtain ⟨s1, s2⟩ := He.ba hs
  obtain ⟨_, k2⟩ := He5.wrapB_ok s1
  exact ⟨h1, h2, He.eqO_ok h3, of_decide_eq_true h4, He.eqO_ok h5, of_decide_eq_true h6, by simpa using h7, k2, s2⟩
def pCm (x f : Str) : Pth := fun K => He5.wf K (He.ga K x) "classmethod" f
def qCm (x f : Str) : Fq := fun K => He5.wrapB K (He.ga K x) "classmethod" "classmethod.__get__" f && PySem.W.fnIn K (pCm x f K)
theorem qCm_ok {K : PySem.W.Frag} {x f : Str} (h : qCm x f K = true) : ClX.CMet K (He.ga K x) (.type "type") f (He.ma K (He.ga K x) f) (pCm x f K) := by
  obtain ⟨h1, h2⟩ := He.ba h
  obtain ⟨k1, k2⟩ := He5.wrapB_ok h1
  exact ⟨k1, k2, h2⟩
/-- C.f, a constant -/
def qVal (x f : Str) (v : V) : Fq := fun K => (match PySem.W.findCls K (.ref (He.ga K x)) (.type "type") f with
  | some (.val u) => He.relB v u
  | _ => false) && (match PySem.W.findIn K (.ref (He.ga K x)) f with
  | some (some u) => He.relB v u && (He.eqO (PySem.W.specialIn K u "__get__") (some none) && !PySem.W.copiedNames.contains f)
  | _ => false)
theorem qVal_ok {K : PySem.W.Frag} {x f : Str} {v : V} (h : qVal x f v K = true) : (∃ u, ClX.CVal K (He.ga K x) (.type "type") f v u) ∧ ∃ u, Con K (He.ga K x) f v u := by
  obtain ⟨h1, h2⟩ := He.ba h
  refine ⟨?_, ?_⟩
  · clear h2
    split at h1
    · rename_i u e
      exact ⟨u, e, He.relB_ok h1⟩
    · cases h1
  · clear h1
    split at h2
    · rename_i u e
      obtain ⟨k1, k⟩ := He.ba h2
      obtain ⟨k2, k3⟩ := He.ba k
      exact ⟨u, e, He.relB_ok k1, He.eqO_ok k2, by simpa using k3⟩
    · cases h2
def qIns (x : Str) : Fq := fun K => He.Fa.ok K (.cls x) && (He.eqO (PySem.W.findIn K (.ref (He.ga K x)) "__class__") (some (some (.builtin "object.__class__"))) && (He.eqO (PySem.W.specialIn K (.builtin "object.__class__") "__get__") (some (some (.builtin "getset_descriptor.__get__"))) &&
  (decide (PySem.W.takesIn K (.builtin "object.__class__") = some true) && (decide (PySem.W.mroIn K (He.ga K x) (.type "object") = some true) && bTypes.all fun T => decide (PySem.W.kitOne K (.ref (He.ga K x)) (.type T) = some false)))))
theorem qIns_ok {K : PySem.W.Frag} {x : Str} (h : qIns x K = true) : InsT K (He.ga K x) := by
  obtain ⟨h1, h⟩ := He.ba h
  obtain ⟨h2, h⟩ := He.ba h
  obtain ⟨h3, h⟩ := He.ba h
  obtain ⟨h4, h⟩ := He.ba h
  obtain ⟨h5, h6⟩ := He.ba h
  exact ⟨He.cls_ok h1, He.eqO_ok h2, He.eqO_ok h3, of_decide_eq_true h4, of_decide_eq_true h5, fun T hT => of_decide_eq_true (List.all_eq_true.mp h6 T hT)⟩
def qClsT (x : Str) : Fq := fun K => ["NoneType", "bool", "int", "str", "tuple", "list", "dict"].all fun T => decide (PySem.W.kitOne K (.type T) (.ref (He.ga K x)) = some false)
theorem qClsT_ok {K : PySem.W.Frag} {x : Str} (h : qClsT x K = true) : ClsT K (He.ga K x) := ⟨fun T hT => of_decide_eq_true (List.all_eq_true.mp h T hT)⟩
/-- the default of the i-th parameter with one is the empty tuple -/
def qNilT (a : Pth) : Fq := fun K => (match K.lookup (a K) with
  | some ⟨.type c, _, .seq its _, _⟩ => decide (c = "tuple") && its.isEmpty
  | _ => false)
theorem qNilT_ok {K : PySem.W.Frag} {a : Pth} (h : qNilT a K = true) : WrT K (a K) [] := by
  unfold qNilT at h
  split at h
  · rename_i c od its n sl e
    obtain ⟨h1, h2⟩ := He.ba h
    have e2 : its = #[] := by simpa using h2
    subst e2
    exact ⟨_, #[], n, e, congrArg Value.type (of_decide_eq_true h1), rfl, Nat.zero_le _, .nil⟩
  · cases h
end DL
/-! DLE: the law's def is called with the script. -/
namespace DL
open PySem PySem.Spec PyProof.Rows L2
section
variable {P : Program} {w : World} {K : PySem.W.Frag} {mg mb : Str → Option Value} {k : Nat} {fa a : Addr} {fd : FuncData} {x : Str} {S : DSp} {s : Shared} {vs : List Value} {ns : List Int}
theorem caller_rm (hr : Room k callerA) : Rm k callerA := ⟨hr, rfl⟩
/-- the law from a heap in which at most the script is tracked -/
theorem core_call (KX : K.In s.heap) (gn : s.heap.Ns mainGlobals mg) (bn : s.heap.Ns builtinsNs mb) (bb : ∀ x : Str, x ≠ "__name__" → mb x = bootBuiltins x) (lim : s.heap.NoLimit) (gg : s.gens = #[])
    (sa : s.heap.get? a = some { cls := .type "list", data := .seq vs.toArray }) (hr : Room k callerA) (F : ∀ base : Heap, K.In base → base.Ns mainGlobals mg → DFn P w K mg base k fa fd [x] S) (bd : ∀ (s : Shared) (u : Value), BindsTo s fd ⟨[u], []⟩ [(x, u)])
    (sp : ∀ (Kc : Cv → Mem → Prop), (∀ m, Kc (.p (.bl true)) m) → S [.p (.scr (ns.map .int))] [] Kc fun _ _ => False) (H : Hp) (only : Only H) (sq : SqL K H a (ns.map V.int)) (ok : HOk P w H s.heap) (atA : ∀ b, H b ≠ none → b = a) (nK : H a ≠ none → K.lookup a = none) :
    codeAny (model P w) callerA (.call (.ref fa) ⟨[.ref a], []⟩) (fun r s' => r = .ok (.ret (.bool true)) ∧ OldK s.heap s'.heap ∧ s'.os = s.os ∧ AllBare s'.gens) s := by
  have see : ∀ {b : Addr} {o : Obj}, s.heap.get? b = some o → H b = none → (hidT s.heap H).get? b = some o := hidT_get
  have nd : ∀ {b : Addr} {o : Obj} {es : Array DictEntry} {ep : Nat}, s.heap.get? b = some o → o.data = .dict es ep → H b = none := fun {b o es ep} e d => by
    by_cases q : H b = none
    · exact q
    · obtain rfl := atA b q
      rw [sa] at e; cases e
      cases (show Data.seq vs.toArray _ = Data.dict es ep from d)
  have keepN : ∀ {b : Addr} {m : Str → Option Value}, s.heap.Ns b m → (hidT s.heap H).Ns b m := fun ⟨o, es, ep, e, d, r⟩ => ⟨o, es, ep, see e (nd e d), d, r⟩
  have inB : K.In (hidT s.heap H) := fun b o e => see (KX b o e) (by
    by_cases q : H b = none
    · exact q
    · obtain rfl := atA b q
      rw [nK q] at e; cases e)
  have md : Mod K mg (hidT s.heap H) := ⟨inB, keepN gn, ⟨mb, keepN bn, bb⟩, let ⟨mc, h1, h2⟩ := lim; ⟨mc, keepN h1, h2⟩⟩
  have e0 : Env0 P w K mg (hidT s.heap H) callerA [] s H := ⟨rfl, md, fun b o e => of_hidT e, Nat.le_of_eq (hidT_size _ _), trivial, fun b hb => (nomatch (show b ∈ ([] : List Addr) from hb)), ok, .of_eq gg⟩
  have rp : Rep K (fun _ => False) H (.ref a) (.scr (ns.map .int)) := by
    have r0 : Reps K (fun _ => False) H (ns.map V.int) (ns.map Dat.int) := ints_reps ns
    rcases sq with z | z
    · exact .scr z id r0
    · exact .scrK z r0
  have mo : MemOk K (fun _ => False) H [] := ⟨fun b lo z => (nomatch (show (b, lo) ∈ ([] : List (Addr × Lo)) from z)), List.nodup_nil, fun b z => z.elim⟩
  have rv : Vals (ns.map V.int) vs ∨ True := .inr trivial
  refine codeAny_mono ((F _ inB (keepN gn)).run callerA [] s H ⟨[.ref a], []⟩ [.ref a] [.ref a] (fun v _ => v = .bl true) (fun _ _ _ => False) (caller_rm hr) e0 (bd s (.ref a)) (.cons rfl .nil)
    ⟨fun _ => False, [.p (.scr (ns.map .int))], [], fun c _ => c = .p (.bl true), fun _ _ => False, mo, .cons rp .nil, sp _ fun _ => rfl, fun c A' m' v H' e st cv => ?_, fun _ _ _ _ _ _ z => z.elim⟩) fun r s' h => ?_
  · subst e
    cases (show Rep K A' H' v (.bl true) from cv); rfl
  · cases r with
    | error e =>
      obtain ⟨_, _, _, _, _, _, _, _, _, _, _, _, z⟩ := h
      exact z.elim
    | ok fl =>
      cases fl with
      | next => exact False.elim h
      | brk => exact False.elim h
      | cont => exact False.elim h
      | ret u =>
        obtain ⟨v, H', os, bare, un, ok', r', q⟩ := h
        obtain rfl : v = .bl true := q
        obtain rfl : u = Value.bool true := r'
        refine ⟨rfl, OldK.of_keep fun b o e => ?_, os, bare⟩
        rcases only b with z | ⟨ob, xs, z⟩
        · exact un.keep b o e z (fun z => nomatch (show b ∈ ([] : List Addr) from z)) (by simp)
        · obtain ⟨e1, _⟩ := ok b _ z
          obtain ⟨e2, _⟩ := ok' b _ (un.frzs b ob _ z)
          rw [e] at e1; cases e1
          exact e2
theorem script_call (KX : K.In s.heap) (gn : s.heap.Ns mainGlobals mg) (bn : s.heap.Ns builtinsNs mb) (bb : ∀ x : Str, x ≠ "__name__" → mb x = bootBuiltins x) (lim : s.heap.NoLimit) (gg : s.gens = #[])
    (sa : s.heap.get? a = some { cls := .type "list", data := .seq vs.toArray }) (hi : IntsAre vs ns) (hl : ns.length ≤ sizeLine) (hr : Room k callerA) (F : ∀ base : Heap, K.In base → base.Ns mainGlobals mg → DFn P w K mg base k fa fd [x] S) (bd : ∀ (s : Shared) (u : Value), BindsTo s fd ⟨[u], []⟩ [(x, u)])
    (sp : ∀ (Kc : Cv → Mem → Prop), (∀ m, Kc (.p (.bl true)) m) → S [.p (.scr (ns.map .int))] [] Kc fun _ _ => False) :
    codeAny (model P w) callerA (.call (.ref fa) ⟨[.ref a], []⟩) (fun r s' => r = .ok (.ret (.bool true)) ∧ OldK s.heap s'.heap ∧ s'.os = s.os ∧ AllBare s'.gens) s := by
  have rv := vals_ints hi
  have core := core_call (ns := ns) KX gn bn bb lim gg sa hr F bd sp
  cases hk : K.lookup a with
  | some o =>
    have e := KX a o hk
    rw [sa] at e; cases e
    exact core (fun _ => none) (fun _ => .inl rfl) (.inr ⟨_, vs.toArray, _, hk, rfl, rfl, rfl, by rw [List.size_toArray, hi.length]; exact hl, by simpa using rv⟩) (fun b u z => nomatch (show (none : Option HO) = some u from z)) (fun b z => absurd rfl z) fun z => absurd rfl z
  | none =>
    refine core (fun b => if b = a then some (.frz { cls := .type "list", data := .seq vs.toArray } (.lst (ns.map V.int))) else none) (fun b => ?_) (.inl (.inr ⟨_, if_pos rfl⟩)) (fun b u z => ?_) (fun b z => ?_) fun _ => hk
    · by_cases e : b = a
      · exact .inr ⟨_, _, if_pos e⟩
      · exact .inl (if_neg e)
    · by_cases e : b = a
      · cases (if_pos e).symm.trans z
        rw [e]
        exact ⟨sa, by rw [List.length_map]; exact hl, vs, _, rv, sa⟩
      · cases (if_neg e).symm.trans z
    · by_cases e : b = a
      · exact e
      · exact absurd (if_neg e) z
end
/-- a law: from the facts behind the top to its def's promise -/
theorem law_of {l : PySem.W.OpenLaw} {n k : Nat} {q : Program} {loose : List Str} {XP : (Str → Option Value) → Heap → Prop} {YP : World → Heap → Prop} {d : DefRec} {x : Str}
    (hn : l.most = some n) (hn2 : n ≤ sizeLine) (hdf : d.params.defaults = []) (hr : Room k callerA)
    (F : ∀ (w : World) (mg : Str → Option Value) (fa : Addr) (h : Heap), YP w h → h.Ns mainGlobals mg → mg d.name = some (.ref fa) → ∃ (K : PySem.W.Frag) (fd : FuncData), K.In h ∧ (∀ (s : Shared) (u : Value), BindsTo s fd ⟨[u], []⟩ [(x, u)]) ∧ ∃ S : DSp,
      (∀ (ns : List Int) (Kc : Cv → Mem → Prop), ns.length ≤ n → (∀ m, Kc (.p (.bl true)) m) → S [.p (.scr (ns.map .int))] [] Kc fun _ _ => False) ∧ ∀ base : Heap, K.In base → base.Ns mainGlobals mg → DFn l.prog w K mg base k fa fd [x] S) :
    PySem.W.WalkO q loose XP YP l.row.toRowW d [] (fun f vs => PySem.call f vs) := by
  refine Att.attach_call hn hdf fun w s₀ s₁ mg mb fa o pm cd doc a vs ns G Y ho hd hcd hmg hobj hints hlen hg => ?_
  obtain ⟨K, fd, KX, bd, S, sp, hF⟩ := F w mg fa _ Y G.T.g hmg
  exact script_call KX G.T.g G.T.b G.T.builtins G.T.nolimit hg hobj hints (Nat.le_trans hlen hn2) hr hF bd fun Kc kc => sp ns Kc hlen kc
end DL
/-! DL16: tests by chains, op=, what is never reached, bundles. -/
namespace DL
open PySem PySem.Spec PyProof.Rows L2
section
variable {X : Cx} {W : WX} {pos : Pos}
theorem dt_chain {op op' : CmpOp} {F F' : F2} {a b c : Expr} {ra rb rc : RE} (ho : OpD X (compareOp op) F) (ho' : OpD X (compareOp op') F') (ha : DE X W a ra) (hb : DE X W b rb) (hc : DE X W c rc)
    (hm : lastMarks [op, op'] [b, c] = false := by with_unfolding_all rfl) : DT X W (.Compare a [op, op'] [b, c] pos) (rTe (rChain F F' ra rb rc)) := by
  refine .mk fun pins s σ H A g m Kc KE I hm' hcl q ex => ?_
  refine isTrue_chain (thn (DE.go ha I hm' hcl q ex) fun v s1 ⟨x, H1, A1, m1, c1, I1, r1, st1, cv1, q1⟩ => test_link (thn (DE.go hb I1 st1.mem (hcl.step hm' st1) q1 (ex.step st1)) fun u s2 ⟨y, H2, A2, m2, c2, I2, r2, st2, cv2, q2⟩ =>
    thn (ho pins s2 σ H2 x y v u A2 _ _ _ (fun z H' => ∃ b, z = .bl b ∧ SameH H2 H' ∧ (if b = true then rc g m2 (fun f m3 => F' (view m3 c2) (view m3 f) fun d' => blC (.p d') fun b => Kc b m3) KE else blC (.p (.bl false)) fun b => Kc b m2)) I2 r1 r2 st2.mem.al ((cv1.step st1.mem st2).w st2.mem) (cv2.w st2.mem) q2 fun d z H' k sm rp => ?_) fun d s3 ⟨z, H3, I3, r3, bb, e, sm, q3⟩ => ?_)) hm
  · obtain ⟨bb, rfl, k⟩ := blD_ok k
    cases rp
    exact ⟨bb, rfl, sm, k⟩
  · subst e
    cases r3
    have st12 := st1.trans st2
    have st3 : Step X.K A2 m2 H2 A2 m2 H3 := .same st2.mem sm
    refine wpAny_truthy_bool ?_
    cases bb with
    | false => exact ite_ff ⟨H3, A2, m2, I3, st12.trans st3, q3⟩
    | true =>
      refine ite_tt (test_last (thn (DE.go hc I3 st3.mem (hcl.step hm' (st12.trans st3)) q3 (ex.step (st12.trans st3))) fun w' s4 ⟨z', H4, A4, m4, c4, I4, r4, st4, cv4, q4⟩ => ?_))
      refine thn (ho' pins s4 σ H4 y z' u w' A4 _ _ _ (fun z H' => ∃ b, z = .bl b ∧ Kc b m4 ∧ SameH H4 H') I4 r2 r4 st4.mem.al (((cv2.step st2.mem st3).step st3.mem st4).w st4.mem) (cv4.w st4.mem) q4 fun d z H' k sm rp => ?_) fun z s5 ⟨z2, H5, I5, r5, b5, e5, k5, sm5⟩ => ?_
      · obtain ⟨b5, rfl, k⟩ := blD_ok k
        cases rp
        exact ⟨b5, rfl, k, sm⟩
      · subst e5
        cases r5
        exact wpAny_truthy_bool ⟨H5, A4, m4, I5, ((st12.trans st3).trans st4).trans (.same st4.mem sm5), k5⟩
/-! ### never reached -/
def rNever : RS := fun _ _ _ => False
theorem ds_never {s : Stmt} : DS X W s rNever := ⟨fun _ _ _ _ _ _ ⟨_, _, _, _, _, _, q, _⟩ => q.elim⟩
theorem dss_never {s : List Stmt} : DSs X W s rNever := ⟨fun _ _ _ _ _ _ ⟨_, _, _, _, _, _, q, _⟩ => q.elim⟩
def rNoE : RE := fun _ _ _ _ => False
theorem de_never {e : Expr} : DE X W e rNoE := ⟨fun _ _ _ _ _ _ ⟨_, _, _, _, _, _, _, q, _⟩ => q.elim⟩
theorem d_dic0 : DE X W (.Dict [] [] pos) (rC (.dic [])) := PE.imp pe_dnewK fun σ H Q ⟨A, g, m, Kc, KE, hm, hc, q, k, ex⟩ => fun p hp =>
  k _ A m _ _ q (.fresh hm hp) (Rep.dic (.inl upd_same) (hm.al |> fun al => Al.not al hp) .nil)
/-- not e, as a value -/
def rNotV (ra : RE) : RE := fun g m K KE => ra g m (fun c m1 => truD (view m1 c) fun b => K (.p (.bl (!b))) m1) KE
theorem d_not {a : Expr} {ra : RE} (ha : DE X W a ra) : DE X W (.UnaryOp .Not a pos) (rNotV ra) := .mk fun pins s σ H A g m Kc KE I hm hc q ex => by
  refine UnaryOp_ (thn (DE.go ha I hm hc q ex) fun v s1 ⟨x, H1, A1, m1, c1, I1, r1, st1, cv1, q1⟩ => ?_)
  exact not_of (thn (tru_dat pins s1 σ H1 x v A1 _ _ I1 r1 (cv1.w st1.mem) q1) fun b s2 ⟨I2, q2⟩ => ⟨.bl (!b), H1, A1, m1, .p (.bl (!b)), I2, rfl, st1, Rep.bl _, q2⟩)
/-! ### blocks -/
def blkB (N : List Str) (sc scope : Scope) (own : List (Str × Nat)) : Bool := decide (scope.kind = .function) && ((scope.names.all fun y => decide (scope.names.lookup y.1 = some y.2)) && ((own.all fun p => decide (N[p.2]? = some p.1)) &&
  ((scope.names.all fun y => !decide (y.2 = .free) || (decide (sc.names.lookup y.1 = some .cell) || decide (sc.names.lookup y.1 = some .free))) && (scope.names.all fun y => !(decide (y.2 = .local) || decide (y.2 = .cell)) || (decide (y.1 ∈ own.map (·.1)) || decide (y.1 ∉ N))))))
theorem blk_of {N' : List Str} {sc' scope : Scope} {own : List (Str × Nat)} (N : List Str) (sc : Scope) (h1 : N' = N) (h2 : sc' = sc) (h : blkB N sc scope own = true) : BlkOk N' sc' scope own := by
  subst h1 h2
  obtain ⟨a1, h⟩ := He.ba h
  obtain ⟨a2, h⟩ := He.ba h
  obtain ⟨a3, h⟩ := He.ba h
  obtain ⟨a4, a5⟩ := He.ba h
  refine ⟨of_decide_eq_true a1, fun y hy => of_decide_eq_true (List.all_eq_true.mp a2 y hy), fun p hp => of_decide_eq_true (List.all_eq_true.mp a3 p hp), fun y hy e => ?_, fun y hy e => ?_⟩
  · have z := List.all_eq_true.mp a4 y hy
    rw [decide_eq_true e] at z
    have z' : (decide (_ : Prop) || decide (_ : Prop)) = true := z
    rcases Bool.or_eq_true_iff.mp z' with z | z
    · exact .inl (of_decide_eq_true z)
    · exact .inr (of_decide_eq_true z)
  · have z := List.all_eq_true.mp a5 y hy
    have e2 : (decide (y.2 = .local) || decide (y.2 = .cell)) = true := by
      rcases e with e | e
      · rw [decide_eq_true e]; rfl
      · rw [decide_eq_true e, Bool.or_true]
    rw [e2] at z
    have z' : (decide (_ : Prop) || decide (_ : Prop)) = true := z
    rcases Bool.or_eq_true_iff.mp z' with z | z
    · exact .inl (of_decide_eq_true z)
    · exact .inr (of_decide_eq_true z)
/-! ### x op= e -/
def rAug (i : Nat) (F : F2) (ra : RE) : RS := fun E g m => match slot g i with
  | some c => ra g m (fun c2 m1 => F (view m1 c) (view m1 c2) fun d => E.nx (put g i (some (.p d))) m1) E.ex
  | none => False
def ipD (K : PySem.W.Frag) (F : F2) : TIp := fun x y H Q => ∃ (A : Addr → Prop) (d e : Dat) (KK : Dat → Prop), Al A H ∧ RepW K A H x d ∧ RepW K A H y e ∧ F d e KK ∧ ∀ d' z H', KK d' → SameH H H' → Rep K A H' z d' → Q z H'
theorem ip_of {op : Operator} {F : F2} (h : OpD X (inplaceOp op) F) : PIp X op (ipD X.K F) := fun pins s σ H x y v u Q I rx ry ⟨A, d, e, KK, al, w1, w2, q, k⟩ => h pins s σ H x y v u A d e KK Q I rx ry al w1 w2 q k
theorem ds_aug {i : Nat} {x : Str} {p : Pos} {op : Operator} {e : Expr} {F : F2} {ra : RE} (hN : X.N.Nodup) (ho : OpD X (inplaceOp op) F) (he : DE X W e ra) (hi : X.N[i]? = some x := by rfl) (hx : Loc X.env.scope x := by first | exact Or.inl rfl | exact Or.inr rfl)
    (hf : X.fn x = true ∨ X.env.scope.names.lookup x = some .local := by first | exact .inl rfl | exact .inr rfl | assumption) : DS X W (.AugAssign (.Name x p) op e pos) (rAug i F ra) := PS.imp (ps_aug hN hi hx he (ip_of ho) hf) fun D σ H h => by
  obtain ⟨A, g, m, E, hm, hc, q, e⟩ := liftS_el h
  unfold rAug at q
  cases e1 : slot g i with
  | none => rw [e1] at q; exact q.elim
  | some c =>
    rw [e1] at q
    obtain ⟨v, h1, h2⟩ := hc.at_ i c (slot_eq e1)
    refine ⟨v, h1, A, g, m, _, E.ex, hm, hc, q, fun c2 A1 m1 y H1 q1 st1 cv1 => ?_, e.ex⟩
    refine ⟨A1, _, _, _, st1.mem.al, (h2.step hm st1).w st1.mem, cv1.w st1.mem, q1, fun d z H' k sm rp => ?_⟩
    have st2 := Step.same st1.mem sm
    exact e.nx _ A1 m1 _ H' k (st1.trans st2) ((hc.step hm (st1.trans st2)).put i rp)
theorem op_iaddI : OpD X (inplaceOp .Add) (iF (fun _ _ => True) fun i j => i + j) := iF_of0 iop_add
theorem op_isubI : OpD X (inplaceOp .Sub) (iF (fun _ _ => True) fun i j => i - j) := iF_of0 iop_sub
theorem op_imulI : OpD X (inplaceOp .Mult) (iF CMul fun i j => i * j) := iF_of iop_mul
/-! ### built-in calls that take several kinds -/
def sortF : FC := fun ds K => c1F sortIF ds K ∨ c1F sortRF ds K
theorem call_sortD : CallD X (.builtin "sorted") sortF := call_sortID.or call_sortRD
def max2F : FC := fun ds K => c2F maxF ds K ∨ c1F maxLF ds K
theorem call_max2D (hc : X.calm = true) : CallD X (.builtin "max") max2F := (call_maxD hc).or (call_maxLD hc)
def min2F : FC := fun ds K => c2F minF ds K ∨ c1F minLF ds K
theorem call_min2D (hc : X.calm = true) : CallD X (.builtin "min") min2F := (call_minD hc).or (call_minLD hc)
end
/-- a def as the law's top left it, with its promise -/
structure Pm (P : Program) (w : World) (K : PySem.W.Frag) (mg : Str → Option Value) (base : Heap) (k : Nat) (d : Dq) (ps : List Str) (S : DSp) : Prop where
  ex : ∃ fd, FunD K d.name d.qual d.params d.body d.scope (d.dvs K) [] (d.loc K) fd ∧ DFn P w K mg base k (d.loc K) fd ps S
theorem Pm.mono {P : Program} {w : World} {K : PySem.W.Frag} {mg : Str → Option Value} {base : Heap} {j k : Nat} {d : Dq} {ps : List Str} {S : DSp} (h : Pm P w K mg base j d ps S) (e : j ≤ k) : Pm P w K mg base k d ps S :=
  let ⟨fd, F, G⟩ := h.ex
  ⟨fd, F, G.mono e⟩
/-- a def's promise from its walk and its plain law -/
theorem Pm.of {P : Program} {w : World} {K : PySem.W.Frag} {mg : Str → Option Value} {base : Heap} {d : Dq} {N ps : List Str} {k : Nat} {S : DSp} {r : RS} (new : Bool) (F : ∃ fd, FunD K d.name d.qual d.params d.body d.scope (d.dvs K) [] (d.loc K) fd) (Sc : FnScope N ps d.scope)
    (len : ∀ cs m Kc KE, S cs m Kc KE → cs.length = ps.length)
    (hb : ∀ (cdv : Value) (A : Around) (outer : List Env) (s : Shared) (H : Hp) (E : XK), Rm k (A.deeper (envOfC d.qual d.scope s.heap.objs.size (d.loc K) cdv)) → DSs (cxOf (L2.CX P w) P w K mg base N d.qual d.scope (d.loc K) cdv A outer s H E) (fun c d _ H => E c d H) d.body r)
    (pl : ∀ cs m Kc KE, S cs m Kc KE → r { nx := fun _ m => exK new Kc (.p .non) m, rt := exK new Kc, ex := fun x _ m => KE x m.tail } (entry N cs) ([] :: m)) : Pm P w K mg base (k + 1) d ps S :=
  let ⟨fd, F⟩ := F
  ⟨fd, F, DFn.of new F Sc len fun cdv A outer s H E hr => ⟨r, hb cdv A outer s H E hr, pl⟩⟩
end DL

namespace DL
open PySem PySem.Spec PyProof.Rows L2
theorem DFn.ofFun {P : Program} {w : World} {K : PySem.W.Frag} {mg : Str → Option Value} {base : Heap} {k : Nat} {x qual : Str} {params : Arguments} {body : List Stmt} {scope : Scope} {dvs : List V} {kws : List (Str × V)} {f : Addr} {fd fd' : FuncData} {ps : List Str} {S : DSp}
    (F : FunD K x qual params body scope dvs kws f fd) (F' : FunD K x qual params body scope dvs kws f fd') (D : DFn P w K mg base k f fd' ps S) : DFn P w K mg base k f fd ps S := by
  obtain ⟨_, _, _, _, _, _, _, _, _, _, rfl, l1, _⟩ := F.ex
  obtain ⟨_, _, _, _, _, _, _, _, _, _, rfl, l2, _⟩ := F'.ex
  rw [l1] at l2
  cases l2
  exact D
end DL
/-! DL17: loops and comprehensions, plainly. -/
namespace DL
open PySem PySem.Spec PyProof.Rows L2
/-- each item gives one, nothing changes -/
theorem lcW_map {rg : RG} {re : RE} {st : Mem → Prop} {gw : G} {K : List Dat → Mem → Prop} (f : Dat → Dat) (m : Mem) (hst : st m) : ∀ (ds acc : List Dat), acc.length + ds.length ≤ sizeLine →
    (∀ d ∈ ds, ∀ Kc : Cv → Mem → Prop, Kc (.p (f d)) m → rg (.p d) gw m fun g1 m1 => re g1 m1 Kc KE0) → K (acc ++ ds.map f) m → lcW rg rYes re st gw K ds acc m
  | [], acc, _, _, k => by simpa [lcW] using k
  | d :: ds, acc, hl, h, k => by
    have h1 := h d (List.mem_cons_self ..) (fun c m3 => match c with
      | .p y => acc.length < sizeLine ∧ st m3 ∧ lcW rg rYes re st gw K ds (acc ++ [y]) m3
      | .l _ _ => False) ⟨by simp at hl; omega, hst, lcW_map f m hst ds (acc ++ [f d]) (by simp at hl ⊢; omega) (fun e he => h e (List.mem_cons_of_mem _ he)) (by simpa using k)⟩
    exact h1
/-- by an invariant: i items are done, acc stands -/
theorem lcW_inv {rg : RG} {re : RE} {st : Mem → Prop} {gw : G} {K : List Dat → Mem → Prop} (I : Nat → List Dat → Mem → Prop) (ds0 : List Dat) (hst : ∀ i acc m, I i acc m → st m) (hl : ds0.length ≤ sizeLine)
    (step : ∀ (i : Nat) (d : Dat) (acc : List Dat) (m : Mem), ds0[i]? = some d → acc.length = i → I i acc m → ∀ Kc : Cv → Mem → Prop, (∀ y m', I (i + 1) (acc ++ [y]) m' → Kc (.p y) m') → rg (.p d) gw m fun g1 m1 => re g1 m1 Kc KE0)
    (fin : ∀ acc m, acc.length = ds0.length → I ds0.length acc m → K acc m) : ∀ (ds : List Dat) (i : Nat) (acc : List Dat) (m : Mem), ds0.drop i = ds → i ≤ ds0.length → acc.length = i → I i acc m → lcW rg rYes re st gw K ds acc m
  | [], i, acc, m, e, hi, ha, q => by
    have : i = ds0.length := by
      have := List.drop_eq_nil_iff.mp e
      omega
    subst this
    exact fin acc m ha q
  | d :: ds, i, acc, m, e, hi, ha, q => by
    have hd : ds0[i]? = some d := by
      have := congrArg (fun l : List Dat => l[0]?) e
      simpa [List.getElem?_drop] using this
    have hlt : i < ds0.length := (List.getElem?_eq_some_iff.mp hd).1
    have e2 : ds0.drop (i + 1) = ds := by
      have := congrArg List.tail e
      simpa [List.tail_drop] using this
    exact step i d acc m hd ha q (fun c m3 => match c with
      | .p y => acc.length < sizeLine ∧ st m3 ∧ lcW rg rYes re st gw K ds (acc ++ [y]) m3
      | .l _ _ => False) fun y m' q' => ⟨by omega, hst _ _ _ q', lcW_inv I ds0 hst hl step fin ds (i + 1) (acc ++ [y]) m' e2 hlt (by simp [ha]) q'⟩
theorem lcW_go {rg : RG} {re : RE} {st : Mem → Prop} {gw : G} {K : List Dat → Mem → Prop} {ds0 : List Dat} {m : Mem} (I : Nat → List Dat → Mem → Prop) (hl : ds0.length ≤ sizeLine) (h0 : I 0 [] m) (hst : ∀ i acc m, I i acc m → st m)
    (step : ∀ (i : Nat) (d : Dat) (acc : List Dat) (m : Mem), ds0[i]? = some d → acc.length = i → I i acc m → ∀ Kc : Cv → Mem → Prop, (∀ y m', I (i + 1) (acc ++ [y]) m' → Kc (.p y) m') → rg (.p d) gw m fun g1 m1 => re g1 m1 Kc KE0)
    (fin : ∀ acc m, acc.length = ds0.length → I ds0.length acc m → K acc m) : lcW rg rYes re st gw K ds0 [] m :=
  lcW_inv I ds0 hst hl step fin ds0 0 [] m rfl (Nat.zero_le _) rfl h0
/-- those that pass a test, each giving one -/
theorem lcW_filter {rg : RG} {rt : RT} {re : RE} {st : Mem → Prop} {gw : G} {K : List Dat → Mem → Prop} (p : Dat → Bool) (f : Dat → Dat) (m : Mem) (hst : st m) : ∀ (ds acc : List Dat), acc.length + ds.length ≤ sizeLine →
    (∀ d ∈ ds, ∀ Kt : G → Bool → Mem → Prop, (∀ g1, (∀ Kc : Cv → Mem → Prop, (p d = true → Kc (.p (f d)) m) → p d = true → re g1 m Kc KE0) → Kt g1 (p d) m) → rg (.p d) gw m fun g1 m1 => rt g1 m1 (fun b m2 => Kt g1 b m2) KE0) → K (acc ++ (ds.filter p).map f) m → lcW rg rt re st gw K ds acc m
  | [], acc, _, _, k => by simpa [lcW] using k
  | d :: ds, acc, hl, h, k => by
    refine h d (List.mem_cons_self ..) (fun g1 b m2 => if b = true then re g1 m2 (fun c m3 => match c with
      | .p y => acc.length < sizeLine ∧ st m3 ∧ lcW rg rt re st gw K ds (acc ++ [y]) m3
      | .l _ _ => False) KE0 else st m2 ∧ lcW rg rt re st gw K ds acc m2) fun g1 hre => ?_
    simp at hl
    cases hp : p d with
    | true =>
      rw [if_pos rfl]
      refine hre _ (fun _ => ⟨by omega, hst, lcW_filter p f m hst ds (acc ++ [f d]) (by simp; omega) (fun e he => h e (List.mem_cons_of_mem _ he)) (by rw [List.filter_cons, if_pos hp] at k; simpa using k)⟩) hp
    | false =>
      rw [if_neg Bool.false_ne_true]
      exact ⟨hst, lcW_filter p f m hst ds acc (by omega) (fun e he => h e (List.mem_cons_of_mem _ he)) (by rw [List.filter_cons, if_neg (by rw [hp]; exact Bool.false_ne_true)] at k; exact k)⟩
/-- a loop by an invariant: i items are done -/
theorem forW_inv {rg : RG} {rb : RS} {E : DEnds} {st : Mem → Prop} (I : Nat → G → Mem → Prop) (ds0 : List Dat) (hst : ∀ i g m, I i g m → st m)
    (step : ∀ (i : Nat) (d : Dat) (g : G) (m : Mem), ds0[i]? = some d → I i g m → ∀ N : G → Mem → Prop, (∀ g2 m2, I (i + 1) g2 m2 → N g2 m2) → rg (.p d) g m fun g1 m1 => rb { E with nx := N, ct := N, bk := E.nx } g1 m1)
    (fin : ∀ g m, I ds0.length g m → E.nx g m) : ∀ (ds : List Dat) (i : Nat) (g : G) (m : Mem), ds0.drop i = ds → i ≤ ds0.length → I i g m → forW rg rb E st ds g m
  | [], i, g, m, e, hi, q => by
    have : i = ds0.length := by
      have := List.drop_eq_nil_iff.mp e
      omega
    subst this
    exact fin g m q
  | d :: ds, i, g, m, e, hi, q => by
    have hd : ds0[i]? = some d := by
      have := congrArg (fun l : List Dat => l[0]?) e
      simpa [List.getElem?_drop] using this
    have hlt : i < ds0.length := (List.getElem?_eq_some_iff.mp hd).1
    have e2 : ds0.drop (i + 1) = ds := by
      have := congrArg List.tail e
      simpa [List.tail_drop] using this
    exact step i d g m hd q _ fun g2 m2 q' => ⟨hst _ _ _ q', forW_inv I ds0 hst step fin ds (i + 1) g2 m2 e2 hlt q'⟩
theorem forW_go {rg : RG} {rb : RS} {E : DEnds} {st : Mem → Prop} {ds0 : List Dat} {g : G} {m : Mem} (I : Nat → G → Mem → Prop) (h0 : I 0 g m) (hst : ∀ i g m, I i g m → st m)
    (step : ∀ (i : Nat) (d : Dat) (g : G) (m : Mem), ds0[i]? = some d → I i g m → ∀ N : G → Mem → Prop, (∀ g2 m2, I (i + 1) g2 m2 → N g2 m2) → rg (.p d) g m fun g1 m1 => rb { E with nx := N, ct := N, bk := E.nx } g1 m1)
    (fin : ∀ g m, I ds0.length g m → E.nx g m) : forW rg rb E st ds0 g m := forW_inv I ds0 hst step fin ds0 0 g m rfl (Nat.zero_le _) h0
theorem blsD_map (bs : List Bool) : blsD (bs.map .bl) = some bs := by
  induction bs with
  | nil => rfl
  | cons b bs ih =>
    show (blsD (bs.map .bl)).map (b :: ·) = _
    rw [ih]; rfl
theorem intsD_map (bs : List Int) : intsD (bs.map .int) = some bs := by
  induction bs with
  | nil => rfl
  | cons b bs ih =>
    show (intsD (bs.map .int)).map (b :: ·) = _
    rw [ih]; rfl
theorem strsD_map (bs : List Str) : strsD (bs.map .str) = some bs := by
  induction bs with
  | nil => rfl
  | cons b bs ih =>
    show (strsD (bs.map .str)).map (b :: ·) = _
    rw [ih]; rfl
/-- all(..), any(..) of a list of bools -/
theorem allF_bls {bs : List Bool} {K : Dat → Prop} (h : K (.bl (bs.all id))) : allF (.lst (bs.map .bl)) K := by
  show match blsD (bs.map .bl) with
    | some bs => K (.bl (bs.all id))
    | none => False
  rw [blsD_map]; exact h
theorem anyF_bls {bs : List Bool} {K : Dat → Prop} (h : K (.bl (bs.any id))) : anyF (.lst (bs.map .bl)) K := by
  show match blsD (bs.map .bl) with
    | some bs => K (.bl (bs.any id))
    | none => False
  rw [blsD_map]; exact h
end DL
namespace DL
open PySem PySem.Spec PyProof.Rows L2
theorem ixF_tup {ds : List Dat} {i : Int} {x : Dat} {K : Dat → Prop} (h : atI ds i = some x) (k : K x) : ixF (.tup ds) (.int i) K := by
  show match atI ds i with
    | some x => K x
    | none => False
  rw [h]; exact k
theorem ixF_lst {ds : List Dat} {i : Int} {x : Dat} {K : Dat → Prop} (h : atI ds i = some x) (k : K x) : ixF (.lst ds) (.int i) K := by
  show match atI ds i with
    | some x => K x
    | none => False
  rw [h]; exact k
theorem ixF_scr {ds : List Dat} {i : Int} {x : Dat} {K : Dat → Prop} (h : atI ds i = some x) (k : K x) : ixF (.scr ds) (.int i) K := by
  show match atI ds i with
    | some x => K x
    | none => False
  rw [h]; exact k
theorem ixF_str {z : Str} {i : Int} {c : Nat} {K : Dat → Prop} (hz : z.length ≤ sizeLine) (h : atI z.cps.toList i = some c) (k : K (.str ⟨#[c]⟩)) : ixF (.str z) (.int i) K := by
  refine ⟨hz, ?_⟩
  rw [h]; exact k
end DL
namespace DL
open PySem PySem.Spec PyProof.Rows L2
/-! ### evaluation -/
section
variable {K : Dat → Prop} {i j : Int} {x y : Str} {a b c : Dat} {l : List Dat} {p q : Bool} {m : Mem}
theorem view_p {d : Dat} : view m (.p d) = d := rfl
theorem addF_ii : addF (.int i) (.int j) K = K (.int (i + j)) := rfl
theorem addF_ss : addF (.str x) (.str y) K = (x.length + y.length ≤ sizeLine ∧ K (.str (x ++ y))) := rfl
theorem addF_ll {xs ys : List Dat} : addF (.lst xs) (.lst ys) K = (xs.length + ys.length ≤ sizeLine ∧ K (.lst (xs ++ ys))) := rfl
theorem addF_tt {xs ys : List Dat} : addF (.tup xs) (.tup ys) K = (xs.length + ys.length ≤ sizeLine ∧ K (.tup (xs ++ ys))) := rfl
theorem iF_ii {C : Int → Int → Prop} {f : Int → Int → Int} : iF C f (.int i) (.int j) K = (C i j ∧ K (.int (f i j))) := rfl
theorem mulF_ii : mulF (.int i) (.int j) K = (CMul i j ∧ K (.int (i * j))) := rfl
theorem mulF_si : mulF (.str x) (.int j) K = (1 ≤ j ∧ j < 2 ^ 20 ∧ x.length * j.toNat ≤ sizeLine ∧ K (.str (rptS x j))) := rfl
theorem mulF_li {xs : List Dat} : mulF (.lst xs) (.int j) K = (0 ≤ j ∧ j < 2 ^ 20 ∧ xs.length * j.toNat ≤ sizeLine ∧ K (.lst (List.replicate j.toNat xs).flatten)) := rfl
theorem eqF_ii : eqF (.int i) (.int j) K = K (.bl (decide (i = j))) := rfl
theorem eqF_ss : eqF (.str x) (.str y) K = K (.bl (decide (x = y))) := rfl
theorem eqF_bb : eqF (.bl p) (.bl q) K = K (.bl (decide (p = q))) := rfl
theorem neF_ii : neF (.int i) (.int j) K = K (.bl (!decide (i = j))) := rfl
theorem neF_ss : neF (.str x) (.str y) K = K (.bl (!decide (x = y))) := rfl
theorem neF_bb : neF (.bl p) (.bl q) K = K (.bl (!decide (p = q))) := rfl
theorem cmF_ii {f : Int → Int → Bool} {h : List Nat → List Nat → Bool} : cmF f h (.int i) (.int j) K = K (.bl (f i j)) := rfl
theorem cmF_ss {f : Int → Int → Bool} {h : List Nat → List Nat → Bool} : cmF f h (.str x) (.str y) K = K (.bl (h x.cps.toList y.cps.toList)) := rfl
theorem at0 {α : Type} {z : α} {l : List α} : atI (z :: l) 0 = some z := atI_nat (j := 0) rfl
theorem at1 {α : Type} {z y : α} {l : List α} : atI (z :: y :: l) 1 = some y := atI_nat (j := 1) rfl
theorem at2 {α : Type} {z y x : α} {l : List α} : atI (z :: y :: x :: l) 2 = some x := atI_nat (j := 2) rfl
theorem ixF_l {ds : List Dat} : ixF (.lst ds) (.int i) K = (match atI ds i with | some x => K x | none => False) := rfl
theorem ixF_t {ds : List Dat} : ixF (.tup ds) (.int i) K = (match atI ds i with | some x => K x | none => False) := rfl
theorem ixF_c {ds : List Dat} : ixF (.scr ds) (.int i) K = (match atI ds i with | some x => K x | none => False) := rfl
theorem ixF_s : ixF (.str x) (.int i) K = (x.length ≤ sizeLine ∧ (match atI x.cps.toList i with | some c => K (.str ⟨#[c]⟩) | none => False)) := rfl
theorem lenF_s : lenF (.str x) K = (x.length ≤ sizeLine ∧ K (.int x.length)) := rfl
theorem lenF_l : lenF (.lst l) K = K (.int l.length) := rfl
theorem lenF_t : lenF (.tup l) K = K (.int l.length) := rfl
theorem lenF_c : lenF (.scr l) K = K (.int l.length) := rfl
theorem absF_i : absF (.int i) K = K (.int (if i < 0 then -i else i)) := rfl
theorem maxF_ii : maxF (.int i) (.int j) K = K (.int (if j > i then j else i)) := rfl
theorem minF_ii : minF (.int i) (.int j) K = K (.int (if j < i then j else i)) := rfl
theorem divmodF_ii : divmodF (.int i) (.int j) K = (CDivP i j ∧ K (.tup [.int (i / j), .int (i % j)])) := rfl
theorem isF_n {n : Bool} : isF n a .non K = (noRaw a ∧ K (.bl (if n = true then !isNon a else isNon a))) := rfl
theorem isF_b {n : Bool} : isF n (.bl p) (.bl q) K = K (.bl (if n = true then !decide (p = q) else decide (p = q))) := rfl
theorem blC_b {KK : Bool → Prop} : blC (.p (.bl p)) KK = KK p := rfl
theorem blD_b {KK : Bool → Prop} : blD (.bl p) KK = KK p := rfl
theorem truD_b {KK : Bool → Prop} : truD (.bl p) KK = KK p := rfl
theorem truD_i {KK : Bool → Prop} : truD (.int i) KK = KK (i != 0) := rfl
theorem truD_n {KK : Bool → Prop} : truD .non KK = KK false := rfl
theorem truD_l {KK : Bool → Prop} : truD (.lst l) KK = KK (!l.isEmpty) := rfl
theorem truD_t {KK : Bool → Prop} : truD (.tup l) KK = KK (!l.isEmpty) := rfl
theorem c1F_1 {f : Dat → (Dat → Prop) → Prop} : c1F f [a] K = f a K := rfl
theorem c2F_2 {f : Dat → Dat → (Dat → Prop) → Prop} : c2F f [a, b] K = f a b K := rfl
theorem starD_t {KK : List Dat → Prop} : starD (.tup l) KK = KK l := rfl
theorem starD_l {KK : List Dat → Prop} : starD (.lst l) KK = KK l := rfl
theorem isiF_eq {Kf : PySem.W.Frag} {T : String} : isiF Kf T [a, .raw (.ty T)] K = (okI Kf a ∧ K (.bl (isD T a))) := by
  show (T = T ∧ okI Kf a ∧ K (.bl (isD T a))) = _
  simp
theorem isiCF_eq {Kf : PySem.W.Frag} {C : Addr} : isiCF Kf C [a, .raw (.ref C)] K = (okC Kf C a ∧ K (.bl (isC C a))) := by
  show (C = C ∧ okC Kf C a ∧ K (.bl (isC C a))) = _
  simp
theorem onL_eq {n i : Nat} {ad : Addr} {ds : List Dat} {k : Nat → Nat → List Dat → Prop} (h : mget m n i = some (ad, .lst ds)) : onL m (.l n i) k = k n i ds := by
  show (match mget m n i with
    | some (_, .lst ds) => k n i ds
    | _ => False) = _
  rw [h]
theorem view_l {n i : Nat} {ad : Addr} {ds : List Dat} (h : mget m n i = some (ad, .lst ds)) : view m (.l n i) = .lst ds := by
  show (match mget m n i with
    | some (a, .gone) => Dat.raw (.ref a)
    | some (_, lo) => dat lo
    | none => .non) = _
  rw [h]; rfl
theorem slot0 {c : Option Cv} {g : G} : slot (c :: g) 0 = c := rfl
theorem slotS {c : Option Cv} {g : G} {n : Nat} : slot (c :: g) (n + 1) = slot g n := rfl
theorem put0 {c d : Option Cv} {g : G} : put (c :: g) 0 d = d :: g := rfl
theorem putS {c d : Option Cv} {g : G} {n : Nat} : put (c :: g) (n + 1) d = c :: put g n d := rfl
end
theorem mget_mset : ∀ {m : Mem} {n i : Nat} {a : Addr} {lo lo' : Lo}, mget m n i = some (a, lo) → mget (mset m n i lo') n i = some (a, lo')
  | f :: m, 0, i, a, lo, lo', h => by
    have h' : fget f i = some (a, lo) := h
    show fget (fset f i lo') i = some (a, lo')
    clear h
    induction f generalizing i with
    | nil => cases h'
    | cons x f ih =>
      cases i with
      | zero =>
        have : x = (a, lo) := Option.some.inj h'
        subst this; rfl
      | succ i => exact ih i h'
  | f :: m, n + 1, i, a, lo, lo', h => mget_mset (m := m) (n := n) h
theorem mset_mset : ∀ {m : Mem} {n i : Nat} {lo lo' : Lo}, mset (mset m n i lo) n i lo' = mset m n i lo'
  | [], _, _, _, _ => rfl
  | f :: m, 0, i, lo, lo' => by
    show fset (fset f i lo) i lo' :: m = fset f i lo' :: m
    congr 1
    induction f generalizing i with
    | nil => rfl
    | cons x f ih =>
      cases i with
      | zero => rfl
      | succ i => exact congrArg (x :: ·) (ih i)
  | f :: m, n + 1, i, lo, lo' => congrArg (f :: ·) (mset_mset (m := m) (n := n))
end DL
namespace DL
open PySem PySem.Spec PyProof.Rows L2
theorem joinF_l {a : Str} {ys : List Str} {K : Dat → Prop} (hz : (ys.map (·.length)).sum + ys.length * a.length ≤ 16777216) (k : K (.str (Txt.join a ys))) : joinF (.str a) [.lst (ys.map .str)] K := by
  show match strsD (ys.map .str) with
    | some ys => (ys.map (·.length)).sum + ys.length * a.length ≤ 16777216 ∧ K (.str (Txt.join a ys))
    | none => False
  rw [strsD_map]; exact ⟨hz, k⟩
theorem joinL_singles : ∀ ls : List Nat, TL.joinL [] (ls.map fun c => [c]) = ls
  | [] => rfl
  | [_] => rfl
  | c :: d :: ls => by
    have ih := joinL_singles (d :: ls)
    show [c] ++ ([] ++ TL.joinL [] ((d :: ls).map fun c => [c])) = _
    rw [ih]; rfl
theorem join_singles (ls : List Nat) : Txt.join (Str.ofString "") (ls.map fun c => ⟨#[c]⟩) = ⟨ls.toArray⟩ := by
  refine TL.ext_tl ?_
  rw [TL.join_eq, TL.tl_join, List.map_map]
  exact joinL_singles ls
theorem sum_singles : ∀ ls : List Nat, ((ls.map fun c => (⟨#[c]⟩ : Str)).map (·.length)).sum = ls.length
  | [] => rfl
  | _ :: ls => by
    rw [List.map_cons, List.map_cons, List.sum_cons, sum_singles ls, List.length_cons]
    show 1 + ls.length = _
    omega
theorem cut_to {z : Str} {k : Nat} (h : k ≤ z.length) : (cutS z none (some (k : Int))).cps.toList = z.cps.toList.take k := by
  unfold cutS
  rw [HT.sIx_none, HT.sIx_nat, Nat.min_eq_left h]
  simp
theorem cut_from {z : Str} {k : Nat} (h : k ≤ z.length) : (cutS z (some (k : Int)) none).cps.toList = z.cps.toList.drop k := by
  unfold cutS
  rw [HT.sIx_none, HT.sIx_nat, Nat.min_eq_left h]
  have : z.cps.toList.length = z.length := by simp [Str.length]
  simp only
  rw [List.take_of_length_le (by rw [List.length_drop, this]; exact Nat.le_refl _)]
theorem str_len (z : Str) : z.length = z.cps.toList.length := by simp [Str.length]
theorem str_app (x y : Str) : (x ++ y).cps.toList = x.cps.toList ++ y.cps.toList := TL.tl_append x y
theorem slF_s {z : Str} {lo hi : Option Int} {K : Dat → Prop} : slF (.str z) lo hi K = (z.length ≤ sizeLine ∧ K (.str (cutS z lo hi))) := rfl
theorem slF_t {z : List Dat} {lo hi : Option Int} {K : Dat → Prop} : slF (.tup z) lo hi K = K (.tup (cutD z lo hi)) := rfl
theorem slF_l {z : List Dat} {lo hi : Option Int} {K : Dat → Prop} : slF (.lst z) lo hi K = K (.lst (cutD z lo hi)) := rfl
theorem slF_c {z : List Dat} {lo hi : Option Int} {K : Dat → Prop} : slF (.scr z) lo hi K = K (.lst (cutD z lo hi)) := rfl
theorem cutD_to {α : Type} {z : List α} {k : Nat} : cutD z none (some (k : Int)) = z.take k := by
  unfold cutD
  rw [HT.sIx_none, HT.sIx_nat]
  by_cases h : k ≤ z.length
  · rw [Nat.min_eq_left h]; simp
  · rw [Nat.min_eq_right (by omega)]
    simp only [Nat.sub_zero, List.drop_zero]
    rw [List.take_of_length_le (Nat.le_refl _), List.take_of_length_le (by omega)]
theorem cutD_from {α : Type} {z : List α} {k : Nat} : cutD z (some (k : Int)) none = z.drop k := by
  unfold cutD
  rw [HT.sIx_none, HT.sIx_nat]
  by_cases h : k ≤ z.length
  · rw [Nat.min_eq_left h, List.take_of_length_le (by rw [List.length_drop]; exact Nat.le_refl _)]
  · rw [Nat.min_eq_right (by omega), List.drop_eq_nil_of_le (Nat.le_refl _), List.drop_eq_nil_of_le (by omega)]
    simp
end DL
/-! DL18: len of an instance by its class's own __len__. -/
namespace DL
open PySem PySem.Spec PyProof.Rows L2
section
variable {X : Cx} {W : WX} {C f : Addr} {k n : Nat} {fd : FuncData} {ps kn : List Str} {S : DSp} {gC : List Cv → List Cv → List Cv} {x : Str} {p pos : Pos}
/-- the class has an own def of that special name -/
structure Spc (K : PySem.W.Frag) (C : Addr) (mn : Str) (f : Addr) : Prop where
  at_ : PySem.W.findIn K (.ref C) mn = some (some (.ref f))
  fn : PySem.W.isFn K (.ref f) = true
/-- the fact, as the head reads it -/
def qSpc (x f : Str) : Fq := fun K => He.eqO (PySem.W.findIn K (.ref (He.ga K x)) f) (some (some (.ref (He.ma K (He.ga K x) f)))) && PySem.W.isFn K (.ref (He.ma K (He.ga K x) f))
theorem qSpc_ok {K : PySem.W.Frag} {x f : Str} (h : qSpc x f K = true) : Spc K (He.ga K x) f (He.ma K (He.ga K x) f) := ⟨He.eqO_ok (He.ba h).1, (He.ba h).2⟩
def asLen (K : Cv → Mem → Prop) : Cv → Mem → Prop := fun c m => ∃ i, c = .p (.int i) ∧ 0 ≤ i ∧ i < 2 ^ 63 ∧ K (.p (.int i)) m
def one : List Cv → (Cv → Prop) → Prop
  | [c], K => K c
  | _, _ => False
def rLenI (C : Addr) (S : DSp) (ra : RA) : RE := fun g m K KE => ra g m (fun cs m1 => one cs fun co => isInP C (S [co] m1 (asLen K) fun _ _ => False) (view m1 co)) KE
def lenR (K : PySem.W.Frag) (C : Addr) (S : DSp) : List V → Hp → VK → Prop := fun xs H Q => ∃ (A : Addr → Prop) (m : Mem) (c : Cv) (KK : Cv → Mem → Prop), MemOk K A H m ∧ CvsOk K A H m xs [c] ∧ isInP C (S [c] m (asLen KK) fun _ _ => False) (view m c) ∧
  ∀ i A' m' H', KK (.p (.int i)) m' → Step K A m H A' m' H' → Q (.int i) H'
theorem call_own (c : Cls X.K C) (F : DFn X.prog X.w X.K X.mg X.base k f fd ps S) (hr : Rm (k + 1) X.A) (b : BindD X.K fd ps n [] fun cs _ => cs) {pins : List (Addr × Obj)} {s : Shared} {σ : L2.St} {H : Hp} {A : Addr → Prop} {m : Mem} {cs : List Cv} {vs : List V} {us : List Value} {KK : Cv → Mem → Prop} {Q : Value → Shared → Prop} {E : Value → Shared → Prop}
    (I : Inv X pins σ H s) (hm : MemOk X.K A H m) (rv : Vals vs us) (cv : CvsOk X.K A H m vs cs) (hl : us.length = n) (q : S cs m KK fun _ _ => False)
    (k' : ∀ u s' v A' m' H' c, KK c m' → Step X.K A m H A' m' H' → CvOk X.K A' H' m' v c → Inv X pins σ H' s' → RelV v u → Q u s') : wpAny (model X.prog X.w) X.A.in1 (call (.ref f) us) Q E s := by
  obtain ⟨g1, gV, b1, b2, b3⟩ := b.ex
  refine wpAny_call (codeAny_mono (F.run X.A.in1 X.stack s H ⟨us, []⟩ (g1 us []) (gV vs []) (fun v H2 => ∃ A2 m2 c2, Step X.K A m H A2 m2 H2 ∧ CvOk X.K A2 H2 m2 v c2 ∧ KK c2 m2) (fun _ _ _ => False) hr.in1 I.env0.in1
      (b1 _ us [] I.kIn hl rfl) (b2 _ _ _ _ rv .nil) ⟨A, _, m, _, _, hm, b3 _ _ _ _ _ _ _ cv .nil, q, fun c A' m' v H' kc st cv => ⟨A', m', c, st, cv, kc⟩, fun x A' m' H' cls d ke _ _ => ke.elim⟩) fun R s' hq => ?_)
  cases R with
  | error er =>
    obtain ⟨_, _, _, _, _, _, _, _, _, _, _, _, _, _, _, _, w⟩ := XE.of_call (W := W0) I (fun _ _ _ h => h) hq
    exact w.elim
  | ok fl =>
    cases fl with
    | ret u =>
      obtain ⟨v, H3, I3, rv, A2, m2, c2, st2, cv2, kc⟩ := I.after hq
      exact k' u s' v A2 m2 H3 c2 kc st2 cv2 I3 rv
    | next => exact False.elim hq
    | brk => exact False.elim hq
    | cont => exact False.elim hq
theorem call_lenI (c : Cls X.K C) (L : Spc X.K C "__len__" f) (F : DFn X.prog X.w X.K X.mg X.base k f fd ps S) (hr : Rm (k + 1) X.A) (b : BindD X.K fd ps 1 [] fun cs _ => cs) : CallR X (.builtin "len") (lenR X.K C S) := fun pins s σ H xs us Q I r ⟨A, m, co, KK, hm, cv, q, kk⟩ => by
  cases cv with
  | cons cv0 cvr =>
  cases cvr
  have w := cv0.w hm
  cases e1 : view m co with
  | ins C' fs =>
    rw [e1] at q w
    obtain ⟨rfl, q2⟩ := q
    obtain ⟨a, dx, vs, rfl, hI, rr⟩ := w.inst
    obtain ⟨u, rfl, ru⟩ := vals1 r
    cases ru
    obtain ⟨mA, O, _, _, _, _⟩ := ins_get I.hok hI
    obtain ⟨od, J, _⟩ := O.look
    refine Calls.call_function_entry kind_len plain_len entry_len (args_len1 _) ?_
    unfold Builtin.«len»
    refine wpAny_bind (m := oneArg "len" _) (wpAny_pure ?_)
    refine wpAny_bind (m := callSpecial? (.ref a) (Str.ofString "__len__")) (PySem.W.special_fn I.kIn J L.at_ (beq_iff_eq.mp L.fn) (call_own c F hr b I hm (.cons (show RelV (.ref a) (Value.ref a) from rfl) .nil) (.cons cv0 .nil) rfl q2 fun u s' v A' m' H' c' kc st cv' I' ru => ?_))
    obtain ⟨i, rfl, h0, h1, kc⟩ := kc
    have cv2 : Rep X.K A' H' v (.int i) := cv'
    cases cv2
    obtain ⟨t, rfl⟩ := ru
    refine wpAny_bind (wpAny_holding (wpAny_pure ?_))
    refine wpAny_bind (wpAny_letGo ?_)
    show wpAny _ _ (if i < 0 then _ else _) _ _ _
    rw [if_neg (by omega)]
    show wpAny _ _ (if i ≥ 2 ^ 63 then _ else _) _ _ _
    rw [if_neg (by omega)]
    exact wpAny_bind (wpAny_mkInt (wpAny_pure ⟨_, rfl, .int i, H', I'.tok _, ⟨_, rfl⟩, kk i A' m' H' kc st⟩))
  | _ => rw [e1] at q; exact q.elim
/-- len of plain data, or of an instance of C by its own def -/
def rLenX (C : Addr) (S : DSp) (ra : RA) : RE := fun g m K KE => ra g m (fun cs m1 => one cs fun co => match view m1 co with
  | .ins C' fs => C' = C ∧ S [co] m1 (asLen K) fun _ _ => False
  | d => lenF d fun r => K (.p r) m1) KE
theorem d_lenX {e : Expr} {ra : RA} (c : Cls X.K C) (L : Spc X.K C "__len__" f) (F : DFn X.prog X.w X.K X.mg X.base k f fd ps S) (hr : Rm (k + 1) X.A) (b : BindD X.K fd ps 1 [] fun cs _ => cs)
    (hg : Gl X "len") (hm : X.mg "len" = none) (ha : DA X W [e] ra) (he : starEach [e] X.env = (false, eval e X.env) :: starEach [] X.env := by rfl) (hpl : (backTo pos (starEach [] X.env)).any (·.1) = false := by rfl) :
    DE X W (.Call (.Name "len" p) [e] [] pos) (rLenX C S ra) := by
  have h : CallR X (.builtin "len") fun xs H Q => lenR X.K C S xs H Q ∨ rDC X.K (c1F lenF) xs H Q := fun pins s σ H xs us Q I r q => by
    rcases q with q | q
    · exact call_lenI c L F hr b pins s σ H xs us Q I r q
    · exact call_lenDD.to pins s σ H xs us Q I r q
  refine PE.imp (pe_callB h hg hm rfl ha (he := he) (hpl := hpl)) fun σ H Q z => ?_
  obtain ⟨A, g, m, Kc, KE, hm, hc, q, k, ex⟩ := z
  refine ⟨A, g, m, _, KE, hm, hc, q, fun cs A1 m1 xs H1 q1 st1 cs1 => ?_, ex⟩
  match cs, q1 with
  | [co], q1 =>
    have q2 : (match view m1 co with
      | .ins C' fs => C' = C ∧ S [co] m1 (asLen Kc) fun _ _ => False
      | d => lenF d fun r => Kc (.p r) m1) := q1
    cases e1 : view m1 co with
    | ins C' fs =>
      rw [e1] at q2
      refine .inl ⟨A1, m1, co, Kc, st1.mem, cs1, ?_, fun i A' m' H' kc st => k _ A' m' _ H' kc (st1.trans st) (.int i)⟩
      rw [e1]; exact q2
    | _ =>
      rw [e1] at q2
      refine .inr ⟨A1, [view m1 co], _, st1.mem.al, CvsOk.w st1.mem cs1, ?_, fun d z H' kk sm rp => k (.p d) A1 m1 z H' kk (st1.trans (.same st1.mem sm)) rp⟩
      rw [e1]; exact q2
end
end DL
/-! DL19: what repr shows, within the room. -/
namespace DL
open PySem PySem.Spec PyProof.Rows L2
structure Sh (n D : Nat) (d : Dat) : Prop where
  ex : ∃ p, pyd d = some p ∧ p.showable = true ∧ p.hasDict = false ∧ p.depth ≤ D ∧ p.leavesShort 1921 = true ∧ p.bulk ≤ n
structure Shs (n D : Nat) (ds : List Dat) : Prop where
  ex : ∃ ps, pyds ds = some ps ∧ PyData.showableAll ps = true ∧ PyData.hasDictAll ps = false ∧ PyData.depthAll ps ≤ D ∧ PyData.leavesShortAll 1921 ps = true ∧ PyData.bulkAll ps ≤ n
theorem Sh.non {n D : Nat} : Sh n D .non := ⟨.none, rfl, rfl, rfl, Nat.zero_le _, rfl, Nat.zero_le _⟩
theorem Sh.bl {n D : Nat} {b : Bool} : Sh n D (.bl b) := ⟨.bool b, rfl, rfl, rfl, Nat.zero_le _, rfl, Nat.zero_le _⟩
theorem Sh.int {n D : Nat} {i : Int} (h : i.natAbs < 2 ^ 256) : Sh n D (.int i) := by
  have hl : i.natAbs.log2 < 1920 := by
    by_cases z : i.natAbs = 0
    · rw [z]; decide
    · have := (Nat.log2_lt z).mpr h
      omega
  refine ⟨.int i, rfl, ?_, rfl, Nat.zero_le _, ?_, Nat.zero_le _⟩
  · simp only [PyData.showable, decide_eq_true_eq]; exact hl
  · simp only [PyData.leavesShort, decide_eq_true_eq]; exact int_text_len_1921 hl
theorem Sh.intIn {n D : Nat} {i : Int} (h1 : -10000000000000000000000000000000000000000000000000000000000000000000000000000 ≤ i) (h2 : i ≤ 10000000000000000000000000000000000000000000000000000000000000000000000000000) : Sh n D (.int i) := by
  refine Sh.int ?_
  have : (10000000000000000000000000000000000000000000000000000000000000000000000000000 : Nat) < 2 ^ 256 := by decide
  omega
theorem Sh.str {n D : Nat} {x : Str} (h : x.length ≤ n) (hc : ∀ c ∈ x.cps.toList, c < 16 ^ 8) : Sh n D (.str x) := by
  refine ⟨.str x, rfl, rfl, rfl, Nat.zero_le _, ?_, h⟩
  simp only [PyData.leavesShort, List.all_eq_true, decide_eq_true_eq]
  exact hc
theorem Shs.nil {n D : Nat} : Shs n D [] := ⟨[], rfl, rfl, rfl, Nat.zero_le _, rfl, Nat.zero_le _⟩
theorem Shs.cons {n k D : Nat} {d : Dat} {ds : List Dat} (h : Sh n D d) (t : Shs k D ds) : Shs (n + 1 + k) D (d :: ds) := by
  obtain ⟨p, e, h1, h2, h3, h4, h5⟩ := h
  obtain ⟨ps, f, t1, t2, t3, t4, t5⟩ := t
  refine ⟨p :: ps, ?_, ?_, ?_, ?_, ?_, ?_⟩
  · simp only [pyds, e, f]; rfl
  · simp only [PyData.showableAll, h1, t1, Bool.and_self]
  · simp only [PyData.hasDictAll, h2, t2, Bool.or_self]
  · simp only [PyData.depthAll]; omega
  · simp only [PyData.leavesShortAll, h4, t4, Bool.and_self]
  · simp only [PyData.bulkAll]; omega
theorem Shs.of {n D : Nat} : ∀ {ds : List Dat}, (∀ d ∈ ds, Sh n D d) → Shs (ds.length * (n + 1)) D ds
  | [], _ => .nil
  | d :: ds, h => by
    have := Shs.cons (h d (List.mem_cons_self ..)) (Shs.of fun e he => h e (List.mem_cons_of_mem _ he))
    rw [List.length_cons, Nat.add_mul, Nat.one_mul, Nat.add_comm]
    exact this
theorem Sh.tup {n D : Nat} {ds : List Dat} (h : Shs n D ds) : Sh n (D + 1) (.tup ds) := by
  obtain ⟨ps, e, h1, h2, h3, h4, h5⟩ := h
  refine ⟨.tuple ps, by simp only [pyd, e]; rfl, ?_, ?_, ?_, ?_, ?_⟩
  · simp only [PyData.showable]; exact h1
  · simp only [PyData.hasDict]; exact h2
  · simp only [PyData.depth]; omega
  · simp only [PyData.leavesShort]; exact h4
  · simp only [PyData.bulk]; exact h5
theorem Sh.lst {n D : Nat} {ds : List Dat} (h : Shs n D ds) : Sh n (D + 1) (.lst ds) := by
  obtain ⟨ps, e, h1, h2, h3, h4, h5⟩ := h
  refine ⟨.list ps, by simp only [pyd, e]; rfl, ?_, ?_, ?_, ?_, ?_⟩
  · simp only [PyData.showable]; exact h1
  · simp only [PyData.hasDict]; exact h2
  · simp only [PyData.depth]; omega
  · simp only [PyData.leavesShort]; exact h4
  · simp only [PyData.bulk]; exact h5
theorem Sh.up {n k D E : Nat} {d : Dat} (h : Sh n D d) (h1 : n ≤ k) (h2 : D ≤ E) : Sh k E d := by
  obtain ⟨p, e, a, b, c, f, g⟩ := h
  exact ⟨p, e, a, b, Nat.le_trans c h2, f, Nat.le_trans g h1⟩
def shownD (d : Dat) : Str := match pyd d with
  | some p => p.shown
  | none => Str.empty
theorem reprF_ok {n D : Nat} {d : Dat} {K : Dat → Prop} (hs : isSeq d = true) (h : Sh n D d) (hn : n ≤ 8000) (hD : D ≤ 64) (k : K (.str (shownD d))) : reprF d K := by
  obtain ⟨p, e, h1, h2, h3, h4, h5⟩ := h
  refine ⟨hs, p, e, h1, h2, Nat.le_trans h3 hD, ?_, ?_⟩
  · have := PyData.shown_le_bulk 1921 (by decide) p h4
    rw [sizeLine_eq]
    omega
  · have e2 : shownD d = p.shown := by unfold shownD; rw [e]
    rw [← e2]; exact k
end DL
/-! DL20: enumerate over a text. -/
namespace DL
open PySem PySem.Spec PyProof.Rows L2
/-- the signs of a text with their places -/
def ItS (x : Str) : It :=
  ⟨fun i _ => i < x.cps.size, fun i H v H' => ∃ T c, v = .ref T ∧ H T = none ∧ H' = upd H T (.tup [.int (i : Nat), .str ⟨#[c]⟩]) ∧ x.cps[i]? = some c, fun i _ => x.cps.size = i⟩
theorem dl_drawsS {prog : Program} {w : World} {A : Around} (hh : A.handled = none) (it : Addr) (x : Str) (t : Tok) :
    Draws prog w A it [it] x.cps.size (fun i v => ∃ c u, x.cps[i]? = some c ∧ v = .str ⟨#[c]⟩ u) (fun i h => h.IsStrIter it (strIterType x) x t i) := by
  unfold strIterType
  split
  · exact Draws.strAscii hh it x t
  · exact Draws.strWide hh it x t
theorem turn_enS {P : Program} {w : World} {K : PySem.W.Frag} {elts : List Expr} {kk : Nat} {tpos : Pos} (x : Str) (t : Tok) (e it : Addr) :
    Turn P w K (.Tuple elts kk tpos) (ItS x) [e, it] e (fun i h => (∃ old, IsEnum h e it ((i : Nat) : Int) old) ∧ h.IsStrIter it (strIterType x) x t i ∧ e ≠ it) where
  mem := by simp
  obj := fun i h st b hb => by
    obtain ⟨⟨old, he⟩, ⟨o, ho, hc, hd⟩, _⟩ := st
    rcases (by simpa using hb : b = e ∨ b = it) with z | z
    · rw [z]; exact ⟨_, he, fun v q => nomatch q⟩
    · rw [z]; exact ⟨o, ho, fun v q => by rw [hd] at q; cases q⟩
  keep := fun i h h' st k => let ⟨⟨old, he⟩, ⟨o, ho, r⟩, hne⟩ := st; ⟨⟨old, k e (by simp) _ he⟩, ⟨o, k it (by simp) o ho, r⟩, hne⟩
  item := by
    intro X hP hw hK hc i pins s σ H E I hf st hg
    subst hP hw hK
    obtain ⟨⟨old, he⟩, hit, hne⟩ := st
    have hel : e < s.heap.objs.size := Heap.lt_size he
    have hil : it < s.heap.objs.size := by obtain ⟨_, q, _⟩ := hit; exact Heap.lt_size q
    have hlt : i < x.cps.size := hg
    have D := dl_drawsS (prog := X.prog) (w := X.w) (A := X.A.in1) (show X.A.in1.handled = none from I.ok.hd hc) it x t
    refine wpAny_pyNext_enum_itemD D he hit hlt hne (by simp [hne]) fun y h' tk hy ho hst' hT hsz hk => ?_
    obtain ⟨c, u, hcx, rfl⟩ := hy
    refine ⟨_, rfl, wpAny_letOwnedTupleGo_enum (s := { s with heap := h', toks := tk + 1 }) ho fun h'' he' sb => ?_⟩
    have hT2 : h''.get? s.heap.objs.size = some { cls := .type "tuple", data := .seq #[.int i tk, .str ⟨#[c]⟩ u] } := (sb.2 _ (Nat.ne_of_gt hel)).trans hT
    have new : ObjOk X.prog X.w (upd H s.heap.objs.size (.tup [.int (i : Nat), .str ⟨#[c]⟩])) h'' s.heap.objs.size (.tup [.int (i : Nat), .str ⟨#[c]⟩]) :=
      ⟨by show 2 ≤ sizeLine; decide, [.int i tk, .str ⟨#[c]⟩ u], .cons ⟨_, rfl⟩ (.cons ⟨_, rfl⟩ .nil), ⟨_, hT2, rfl, _, rfl⟩⟩
    have I1 : Inv X pins σ (upd H s.heap.objs.size (.tup [.int (i : Nat), .str ⟨#[c]⟩])) { s with heap := h'', toks := tk + 1 } :=
      I.turnedNew (ch := [e, it]) (fun b ob hb q => (sb.2 b (fun z => hb (by simp [z]))).trans (hk b ob (fun z => hb (by simp [z])) (fun z => hb (by simp [z])) q)) hf (Nat.le_refl _) new
    refine ⟨.ref s.heap.objs.size, _, I1, rfl, ⟨_, c, rfl, I.hok.fresh (Nat.le_refl _), rfl, hcx⟩, ⟨⟨.str ⟨#[c]⟩ u, ?_⟩, (let ⟨o, q, r⟩ := hst'; ⟨o, (sb.2 it (Ne.symm hne)).trans q, r⟩), hne⟩, fun b hb => ?_⟩
    · have e1 : ((i + 1 : Nat) : Int) = (i : Int) + 1 := by omega
      rw [e1]; exact he'
    · have hb' : b < s.heap.objs.size := by
        rcases (by simpa using hb : b = e ∨ b = it) with z | z
        · rw [z]; exact hel
        · rw [z]; exact hil
      rw [upd_ne (Nat.ne_of_lt hb')]
      exact (hf b hb).1
  done := by
    intro X hP hw hK hc i pins s σ H E I hf st hg
    subst hP hw hK
    obtain ⟨⟨old, he⟩, hit, hne⟩ := st
    obtain ⟨f0, f1, f2, f3, f4, f5⟩ := hf it (by simp)
    have hi : x.cps.size = i := hg
    have D := dl_drawsS (prog := X.prog) (w := X.w) (A := X.A.in1) (show X.A.in1.handled = none from I.ok.hd hc) it x t
    exact wpAny_pyNext_enum_endD D he (by rw [hi]; exact hit) fun h' eb => ⟨rfl, I.turned (t' := s.toks) (fun b o hb q => eb b o hb q) f0 f1 f3 f4 f5⟩
  self := fun A i s Q E st h => let ⟨⟨_, he⟩, _⟩ := st; wpAny_pyIter_enum he h
theorem walk_enS {K : PySem.W.Frag} {A : Addr → Prop} {m : Mem} {H : Hp} {x : Str} : WalkOk K (ItS x) A m H (fun _ => True) (enD 0 (signs x)) := by
  have hl : (signs x).length = x.cps.size := by unfold signs; rw [List.length_map, Array.length_toList]
  refine ⟨fun A' m' H' g hm' s => ?_, fun i d A' m' H' g hm' s hd => ?_⟩
  · show x.cps.size = _
    rw [enD_len, hl]
  · obtain ⟨d', hd', rfl⟩ := enD_get 0 (signs x) i d hd
    unfold signs at hd'
    rw [List.getElem?_map] at hd'
    obtain ⟨c, hc, rfl⟩ := Option.map_eq_some_iff.mp hd'
    have hc2 : x.cps[i]? = some c := by rw [← Array.getElem?_toList]; exact hc
    have hi : i < x.cps.size := by
      have := (Array.getElem?_eq_some_iff.mp hc2).1
      exact this
    refine ⟨hi, fun v H'' y => ?_⟩
    obtain ⟨T, c', rfl, hT, rfl, y⟩ := y
    rw [hc2] at y
    cases y
    exact ⟨upd_same' hT, by rw [Nat.zero_add]; exact rep_newT hm'.al hT (.cons (.int _) (.cons (.str _) .nil))⟩
section
variable {X : Cx} {W : WX} {pos : Pos}
/-- enumerate of a text -/
def rEnS (ra : RA) : RI := fun g m K KE => ra g m (fun cs m1 => match cs with
  | [.p (.str x)] => K (enD 0 (signs x)) (fun _ => True) m1
  | _ => False) KE
theorem di_enS {e : Expr} {ra : RA} {p tpos : Pos} {elts : List Expr} {kk : Nat} (hg : Gl X "enumerate") (hm : X.mg "enumerate" = none) (ha : DA X W [e] ra) (hs : starEach [e] X.env = [(false, eval e X.env)] := by rfl) :
    DI X W (.Tuple elts kk tpos) (.Call (.Name "enumerate" p) [e] [] pos) (rEnS ra) := by
  have two : PI X (.Tuple elts kk tpos) (.Call (.Name "enumerate" p) [e] [] pos) (fun σ H R => liftA X.K W ra σ H fun vs H1 => ∃ x, vs = [.str x] ∧ R (ItS x) H1) := by
    refine ⟨fun pins s σ H R I h => ?_⟩
    refine Call_ (ld_blt I hg hm boot_enumerate (PyProof.Rows.callWith_type1 (thn (ha.run pos pins s σ H _ I h) fun us s1 ⟨vs, H1, I1, r1, q⟩ => ?_) hs rfl))
    obtain ⟨x, rfl, q⟩ := q
    obtain ⟨u, rfl, ru⟩ := vals1 r1
    obtain ⟨t, rfl⟩ := ru
    refine call_enumerate_str fun h' he hit hsz hk => wpAny_pyIter_enum he ?_
    have I2 : Inv X pins σ H1 { s1 with heap := h' } := I1.kept (t' := s1.toks) hk
    refine ⟨s1.heap.objs.size + 1, [s1.heap.objs.size + 1, s1.heap.objs.size], _, _, H1, rfl, I2, turn_enS x t (s1.heap.objs.size + 1) s1.heap.objs.size, ⟨⟨.none, he⟩, hit, Nat.succ_ne_self _⟩, fun b hb => ?_, q⟩
    have hle : s1.heap.objs.size ≤ b := by
      rcases (by simpa using hb : b = s1.heap.objs.size + 1 ∨ b = s1.heap.objs.size) with z | z
      · rw [z]; exact Nat.le_add_right _ _
      · rw [z]; exact Nat.le_refl _
    exact I1.fpOk hle (I1.hok.fresh hle)
  refine PI.imp two fun σ H R ⟨A, g, m, Kc, KE, hm, hc, q, k, ex⟩ => ?_
  refine ⟨A, g, m, _, KE, hm, hc, q, fun cs A1 m1 xs H1 q1 st1 cs1 => ?_, ex⟩
  split at q1
  · rename_i x
    cases cs1 with
    | cons c1 c2 =>
      cases c2
      have c1' : Rep X.K A1 H1 _ (.str x) := c1
      cases c1'
      exact ⟨x, rfl, k _ _ A1 m1 _ H1 q1 trivial st1 walk_enS⟩
  · exact q1.elim
end
end DL
namespace Lw
open PySem PySem.Spec PyProof.Rows L2 DL
/-! ### plain data of the program -/
/-- what the top leaves of the classes, as the plain laws want it -/
structure Fc (K : PySem.W.Frag) : Prop where
  insL : InsT K (He.ga K "Line")
def lettersL : List Nat := (Str.ofString "abcdefghijklmnopqrstuvwxyz").cps.toList
def nameS (x : Str) : Bool := decide (0 < x.length) && (decide (x.length < 9) && x.cps.toList.all fun c => decide (c ∈ lettersL))
def nameD : Dat → Bool
  | .str x => nameS x
  | _ => false
def wholeD : Dat → Bool
  | .int _ => true
  | _ => false
def fromD (l : Int) : Dat → Bool
  | .int i => decide (l ≤ i)
  | _ => false
def betwD (l h : Int) : Dat → Bool
  | .int i => decide (l ≤ i) && decide (i ≤ h)
  | _ => false
def gtD : Dat → Dat → Bool
  | .int a, .int b => decide (b < a)
  | _, _ => false
def tripD : Dat → Bool
  | .tup [n, s, e] => nameD n && (fromD 0 s && (wholeD e && gtD e s))
  | _ => false
/-- a value that the tests take -/
def okV (K : PySem.W.Frag) (d : Dat) : Prop := okI K d ∧ ∀ x, d = .str x → x.length ≤ sizeLine
def okT (K : PySem.W.Frag) (d : Dat) : Prop := okV K d ∧ ∀ es, d = .tup es → ∀ e ∈ es, okV K e
abbrev Tp := Str × Int × Int
def tpD (t : Tp) : Dat := .tup [.str t.1, .int t.2.1, .int t.2.2]
def tpOk (t : Tp) : Prop := nameS t.1 = true ∧ 0 ≤ t.2.1 ∧ t.2.1 < t.2.2
structure Valid (ts : List Tp) : Prop where
  len : ts.length ≤ 24
  ok : ∀ t ∈ ts, tpOk t
  asc : ts.Pairwise fun a b => a.1.cps.toList < b.1.cps.toList
/-- a row of by_start -/
def rowD (t : Tp) : List Dat := [.int t.2.1, .str t.1, tpD t]
/-- rs are the trips by their starts, then by their names -/
structure RowsOf (ts rs : List Tp) : Prop where
  perm : rs.Perm ts
  asc : rs.Pairwise fun a b => ltR 2 (rowD b) (rowD a) = false
def lineF (w : Int) (ts rs : List Tp) : List (Str × Dat) := [("width", .int w), ("booked", .tup (ts.map tpD)), ("rows", .lst (rs.map tpD))]
def lineD (K : PySem.W.Frag) (w : Int) (ts rs : List Tp) : Dat := .ins (He.ga K "Line") (lineF w ts rs)
structure LineOk (w : Int) (ts rs : List Tp) : Prop where
  lo : 1 ≤ w
  hi : w ≤ 20
  val : Valid ts
  rows : RowsOf ts rs
theorem ite_b {b : Bool} {P Q : Prop} (h1 : b = true → P) (h2 : b = false → Q) : if b = true then P else Q := by
  cases b
  · exact h2 rfl
  · exact h1 rfl
theorem isD_int (d : Dat) : isD "int" d = match d with | .bl _ => true | .int _ => true | _ => false := by cases d <;> rfl
theorem isD_bool (d : Dat) : isD "bool" d = match d with | .bl _ => true | _ => false := by cases d <;> rfl
theorem isD_str (d : Dat) : isD "str" d = match d with | .str _ => true | _ => false := by cases d <;> rfl
theorem isD_tuple (d : Dat) : isD "tuple" d = match d with | .tup _ => true | _ => false := by cases d <;> rfl
def nameOf : Dat → Option Str
  | .tup (.str x :: _) => some x
  | _ => none
def notBehind (p q : Option Str) : Bool := match p, q with
  | some a, some b => !decide (a.cps.toList < b.cps.toList)
  | _, _ => false
/-- the index of the first that is not a trip of a line -/
def fwD (p : Option Str) (i : Nat) : List Dat → Option Nat
  | [] => none
  | d :: ds => if (decide (24 ≤ i) || (!tripD d || notBehind p (nameOf d))) = true then some i else fwD (nameOf d) (i + 1) ds
theorem fwD_cons {p : Option Str} {i : Nat} {d : Dat} {ds : List Dat} : fwD p i (d :: ds) = if (decide (24 ≤ i) || (!tripD d || notBehind p (nameOf d))) = true then some i else fwD (nameOf d) (i + 1) ds := rfl
def optD : Option Nat → Dat
  | none => .non
  | some i => .int i
structure WordsOk (ws : List Str) : Prop where
  ok : ∀ w ∈ ws, nameS w = true
  nd : ws.Nodup
def meetB (a b : Tp) : Bool := decide (a.2.1 < b.2.2) && decide (b.2.1 < a.2.2)
def passB (t : Tp) (p : Int) : Bool := decide (t.2.1 ≤ p) && decide (p < t.2.2)
def loadN (ts : List Tp) (p : Int) : Nat := (ts.filter fun t => passB t p).length
def earlN (rs : List Tp) (k : Nat) (t : Tp) : List Tp := (rs.take k).filter fun u => meetB u t
/-- among how many seats the k-th of the rows can choose -/
def sizeI (w : Int) (rs : List Tp) (k : Nat) : Int := match rs[k]? with
  | some t => if w - ((earlN rs k t).length : Nat) > 0 then w - ((earlN rs k t).length : Nat) else 0
  | none => 0
def sizeL (w : Int) (rs : List Tp) : List Int := (List.range rs.length).map (sizeI w rs)
def prodI (l : List Int) : Int := l.foldl (· * ·) 1
/-- a tuple or a list of these -/
def seqOf (d : Dat) (l : List Dat) : Prop := d = .tup l ∨ d = .lst l
def overD (w : Int) (ts rs : List Tp) : Dat := match rs.find? (fun t => decide (w < (loadN ts t.2.1 : Nat))) with
  | some t => .int t.2.1
  | none => .non
/-- a line's data within the room of what is shown -/
def Near (ts : List Tp) : Prop := ∀ t ∈ ts, t.2.2 ≤ 1000000000000000000000000000000000000000000000000000000000000000
/-! ### what the defs promise -/
def sp_is_whole (K : PySem.W.Frag) : DSp := fun cs m Kc _ => ∃ d, cs = [.p d] ∧ okI K d ∧ Kc (.p (.bl (wholeD d))) m
def sp_is_between (K : PySem.W.Frag) : DSp := fun cs m Kc _ => ∃ d l h, cs = [.p d, .p (.int l), .p (.int h)] ∧ okI K d ∧ Kc (.p (.bl (betwD l h d))) m
def sp_check_seats (K : PySem.W.Frag) : DSp := fun cs m Kc _ => ∃ w : Int, cs = [.p (.int w)] ∧ 1 ≤ w ∧ w ≤ 20 ∧ Kc (.p .non) m
def sp_is_name (K : PySem.W.Frag) : DSp := fun cs m Kc _ => ∃ d, cs = [.p d] ∧ okV K d ∧ Kc (.p (.bl (nameD d))) m
def sp_is_from (K : PySem.W.Frag) : DSp := fun cs m Kc _ => ∃ d l, cs = [.p d, .p (.int l)] ∧ okI K d ∧ Kc (.p (.bl (fromD l d))) m
def sp_is_trip (K : PySem.W.Frag) : DSp := fun cs m Kc _ => ∃ d, cs = [.p d] ∧ okT K d ∧ Kc (.p (.bl (tripD d))) m
def sp_first_wrong (K : PySem.W.Frag) : DSp := fun cs m Kc _ => ∃ ds, cs = [.p (.tup ds)] ∧ (∀ d ∈ ds, okT K d) ∧ Kc (.p (optD (fwD none 0 ds))) m
def sp_by_start (K : PySem.W.Frag) : DSp := fun cs m Kc _ => ∃ ts, Valid ts ∧ cs = [.p (.tup (ts.map tpD))] ∧ ∀ rs, RowsOf ts rs → Kc (.p (.lst (rs.map tpD))) m
def sp_Line___init__ (K : PySem.W.Frag) : DSp := fun cs m Kc _ => ∃ n i a w ts, cs = [.l n i, .p (.int w), .p (.tup (ts.map tpD))] ∧ mget m n i = some (a, .ins (He.ga K "Line") []) ∧ 1 ≤ w ∧ w ≤ 20 ∧ Valid ts ∧
  ∀ rs, RowsOf ts rs → Kc (.p .non) (mset m n i (.ins (He.ga K "Line") (lineF w ts rs)))
def sp__law_by_start (K : PySem.W.Frag) : DSp := fun cs m Kc _ => ∃ ts, Valid ts ∧ cs = [.p (.tup (ts.map tpD))] ∧ ∀ rs, RowsOf ts rs → Kc (.p (.lst (rs.map tpD))) m
def sp__law_load (K : PySem.W.Frag) : DSp := fun cs m Kc _ => ∃ d ts p, cs = [.p d, .p (.int p)] ∧ seqOf d (ts.map tpD) ∧ ts.length ≤ 1000 ∧ Kc (.p (.int (loadN ts p : Nat))) m
def sp__law_meet (K : PySem.W.Frag) : DSp := fun cs m Kc _ => ∃ s t, cs = [.p (tpD s), .p (tpD t)] ∧ Kc (.p (.bl (meetB s t))) m
def sp__law_product (K : PySem.W.Frag) : DSp := fun cs m Kc _ => ∃ w ts, cs = [.p (.int w), .p (.tup (ts.map tpD))] ∧ Valid ts ∧ 0 ≤ w ∧ w ≤ 100 ∧ ∀ rs, RowsOf ts rs → Kc (.p (.int (prodI (sizeL w rs)))) m
def sp_check_line (K : PySem.W.Frag) : DSp := fun cs m Kc _ => ∃ w ts rs, cs = [.p (lineD K w ts rs)] ∧ Kc (.p .non) m
def sp_Line___len__ (K : PySem.W.Frag) : DSp := fun cs m Kc _ => ∃ w ts rs, cs = [.p (lineD K w ts rs)] ∧ Kc (.p (.int ts.length)) m
def sp_Line_capacity (K : PySem.W.Frag) : DSp := fun cs m Kc _ => ∃ w ts rs, cs = [.p (lineD K w ts rs)] ∧ Kc (.p (.int w)) m
def sp_meet (K : PySem.W.Frag) : DSp := fun cs m Kc _ => ∃ s t, cs = [.p (tpD s), .p (tpD t)] ∧ Kc (.p (.bl (meetB s t))) m
def sp_earlier (K : PySem.W.Frag) : DSp := fun cs m Kc _ => ∃ w ts rs, ∃ k : Nat, ∃ t, cs = [.p (lineD K w ts rs), .p (.int k)] ∧ rs.length ≤ 1000 ∧ rs[k]? = some t ∧ Kc (.p (.lst ((earlN rs k t).map tpD))) m
def sp_sizes_of (K : PySem.W.Frag) : DSp := fun cs m Kc _ => ∃ w ts rs, cs = [.p (lineD K w ts rs)] ∧ rs.length = ts.length ∧ ts.length ≤ 1000 ∧ Kc (.p (.lst ((sizeL w rs).map .int))) m
def sp_count (K : PySem.W.Frag) : DSp := fun cs m Kc _ => ∃ w ts rs, cs = [.p (lineD K w ts rs)] ∧ LineOk w ts rs ∧ Kc (.p (.int (prodI (sizeL w rs)))) m
def sp_passes (K : PySem.W.Frag) : DSp := fun cs m Kc _ => ∃ t p, cs = [.p (tpD t), .p (.int p)] ∧ Kc (.p (.bl (passB t p))) m
def sp_load_of (K : PySem.W.Frag) : DSp := fun cs m Kc _ => ∃ ts p, cs = [.p (.tup (ts.map tpD)), .p (.int p)] ∧ ts.length ≤ 1000 ∧ Kc (.p (.int (loadN ts p : Nat))) m
def sp_Line_load (K : PySem.W.Frag) : DSp := fun cs m Kc _ => ∃ w ts rs p, cs = [.p (lineD K w ts rs), .p (.int p)] ∧ 0 ≤ p ∧ ts.length ≤ 1000 ∧ Kc (.p (.int (loadN ts p : Nat))) m
def sp_overfull (K : PySem.W.Frag) : DSp := fun cs m Kc _ => ∃ w ts rs, cs = [.p (lineD K w ts rs)] ∧ LineOk w ts rs ∧ Kc (.p (overD w ts rs)) m
def sp__law_told (K : PySem.W.Frag) : DSp := fun cs m Kc _ => ∃ w ts, cs = [.p (.int w), .p (.tup (ts.map tpD))] ∧ 1 ≤ w ∧ w ≤ 20 ∧ Valid ts ∧ Near ts ∧ Kc (.p (.bl true)) m
/-- a pool: a list of three ints that may change -/
def poolL (s d c : Int) : Lo := .lst [.int s, .int d, .int c]
def sp__law_draw (K : PySem.W.Frag) : DSp := fun cs m Kc _ => ∃ n i a s d c many, cs = [.l n i, .p (.int many)] ∧ mget m n i = some (a, poolL s d c) ∧ 0 < many ∧ many < 1073741824 ∧
  ∀ r s' d' c', 0 ≤ r → r < many → Kc (.p (.int r)) (mset m n i (poolL s' d' c'))
structure FarOk (ps : List Int) : Prop where
  lo : ∀ p ∈ ps, 0 ≤ p ∧ p ≤ 10000000000000000000000000000000000
  asc : ps.Pairwise (· < ·)
def sp__law_far (K : PySem.W.Frag) : DSp := fun cs m Kc _ => ∃ n i a s d c, ∃ high : Nat, cs = [.l n i, .p (.int high)] ∧ mget m n i = some (a, poolL s d c) ∧ high ≤ 1000 ∧
  ∀ ps s' d' c', FarOk ps → ps.length = high + 1 → Kc (.p (.lst (ps.map .int))) (mset m n i (poolL s' d' c'))
structure RidesOk (ws : List Str) (ts : List Tp) : Prop where
  val : Valid ts
  len : ts.length = ws.length
  mem : ∀ t ∈ ts, t.1 ∈ ws
  hi : ∀ t ∈ ts, t.2.2 ≤ 10000000000000000000000000000000000
def sp__law_rides (K : PySem.W.Frag) : DSp := fun cs m Kc _ => ∃ n i a s d c ws, ∃ high : Nat, cs = [.l n i, .p (.lst (ws.map .str)), .p (.int high)] ∧ mget m n i = some (a, poolL s d c) ∧ WordsOk ws ∧ ws.length ≤ 24 ∧ 1 ≤ high ∧ high ≤ 1000 ∧
  ∀ ts s' d' c', RidesOk ws ts → Kc (.p (.tup (ts.map tpD))) (mset m n i (poolL s' d' c'))
def sp__law_words (K : PySem.W.Frag) : DSp := fun cs m Kc _ => ∃ n i a s d c, ∃ k : Nat, cs = [.l n i, .p (.int k)] ∧ mget m n i = some (a, poolL s d c) ∧ k ≤ 24 ∧
  ∀ ws s' d' c', WordsOk ws → ws.length = k → Kc (.p (.lst (ws.map .str))) (mset m n i (poolL s' d' c'))
def sp__law_peak (K : PySem.W.Frag) : DSp := fun cs m Kc _ => ∃ d ts, cs = [.p d] ∧ seqOf d (ts.map tpD) ∧ ts.length ≤ 1000 ∧ ∀ v : Int, 0 ≤ v → v ≤ ts.length → (∀ t ∈ ts, ((loadN ts t.2.1 : Nat) : Int) ≤ v) → Kc (.p (.int v)) m
def sp__law_long_case (K : PySem.W.Frag) : DSp := fun cs m Kc _ => ∃ n i a s d c, cs = [.l n i] ∧ mget m n i = some (a, poolL s d c) ∧
  ∀ w ts s' d' c', 1 ≤ w → w ≤ 20 → Valid ts → Near ts → Kc (.p (.lst [.int w, .tup (ts.map tpD)])) (mset m n i (poolL s' d' c'))
def sp__law_right (K : PySem.W.Frag) : DSp := fun cs m Kc _ => ∃ n i a s d c, cs = [.l n i] ∧ mget m n i = some (a, poolL s d c) ∧
  ∀ s' d' c', Kc (.p (.bl true)) (mset m n i (poolL s' d' c'))
def sp__law_pool (K : PySem.W.Frag) : DSp := fun cs m Kc _ => ∃ c f r, cs = [.p (.int c)] ∧ m = f :: r ∧ ∀ a s d, Kc (.l 0 f.length) ((f ++ [(a, poolL s d 0)]) :: r)
def sp__law_cell (K : PySem.W.Frag) : DSp := fun cs m Kc _ => ∃ (ns : List Int) (k : Int), cs = [.p (.scr (ns.map .int)), .p (.int k)] ∧ ns.length ≤ 63 ∧ 0 ≤ k ∧ k < 1000 ∧ ∀ v, Kc (.p (.int v)) m
def sp_law (K : PySem.W.Frag) : DSp := fun cs m Kc _ => ∃ ns : List Int, cs = [.p (.scr (ns.map .int))] ∧ ns.length ≤ 63 ∧ ∀ m', Kc (.p (.bl true)) m'
theorem law_end (ns : List Int) (hl : ns.length ≤ 63) (K : PySem.W.Frag) (Kc : Cv → Mem → Prop) (h : ∀ m, Kc (.p (.bl true)) m) : sp_law K [.p (.scr (ns.map .int))] [] Kc fun _ _ => False := ⟨ns, rfl, hl, h⟩
/-! ### what they do -/
def r_is_whole (K : PySem.W.Frag) : RS :=
  (rRet (rAndV (rCB (isiF K "int") (rCons (rVar 0) (rCons (rC (.raw (.ty "int"))) rNil))) (rNotV (rCB (isiF K "bool") (rCons (rVar 0) (rCons (rC (.raw (.ty "bool"))) rNil))))))
def N_is_whole : List Str := ["thing"]
def r_is_between (K : PySem.W.Frag) : RS :=
  (rRet (rAndV (rCallG 1 (sp_is_whole K) (fun cs _ => cs) [] (rA1 (rCons (rVar 0) rNil))) (rChain leF leF (rVar 1) (rVar 0) (rVar 2))))
def N_is_between : List Str := ["thing", "least", "most"]
def r_check_seats (K : PySem.W.Frag) : RS :=
  (rIfS (rNot (rTr (rCallG 3 (sp_is_between K) (fun cs _ => cs) [] (rA1 (rCons (rVar 0) (rCons (rC (.int 1)) (rCons (rC (.int 20)) rNil))))))) rNever rPass)
def N_check_seats : List Str := ["thing"]
def r_is_name (K : PySem.W.Frag) : RS :=
  (rRet (rAndV (rCB (isiF K "str") (rCons (rVar 0) (rCons (rC (.raw (.ty "str"))) rNil))) (rAndV (rChain ltF ltF (rC (.int 0)) (rCB (c1F lenF) (rCons (rVar 0) rNil)) (rC (.int 9))) (rCB (c1F allF) (rCons (rLc (rIt (rVar 0)) (rgName 1) rYes (rOp (inF false) (rVar 1) (rC (.str "abcdefghijklmnopqrstuvwxyz"))) [1]) rNil)))))
def N_is_name : List Str := ["thing", "letter"]
def r_is_from (K : PySem.W.Frag) : RS :=
  (rRet (rAndV (rCallG 1 (sp_is_whole K) (fun cs _ => cs) [] (rA1 (rCons (rVar 0) rNil))) (rOp geF (rVar 0) (rVar 1))))
def N_is_from : List Str := ["thing", "least"]
def r_is_trip (K : PySem.W.Frag) : RS :=
  (rSeq (rIfS (rOr (rNot (rTr (rCB (isiF K "tuple") (rCons (rVar 0) (rCons (rC (.raw (.ty "tuple"))) rNil))))) (rOr (rTe (rOp neF (rCB (c1F lenF) (rCons (rVar 0) rNil)) (rC (.int 3)))) (rNot (rTr (rCallG 1 (sp_is_name K) (fun cs _ => cs) [] (rA1 (rCons (rOp ixF (rVar 0) (rC (.int 0))) rNil))))))) (rRet (rC (.bl false))) rPass)
  (rRet (rAndV (rCallG 2 (sp_is_from K) (fun cs _ => cs) [] (rA1 (rCons (rOp ixF (rVar 0) (rC (.int 1))) (rCons (rC (.int 0)) rNil)))) (rAndV (rCallG 1 (sp_is_whole K) (fun cs _ => cs) [] (rA1 (rCons (rOp ixF (rVar 0) (rC (.int 2))) rNil))) (rOp gtF (rOp ixF (rVar 0) (rC (.int 2))) (rOp ixF (rVar 0) (rC (.int 1))))))))
def N_is_trip : List Str := ["thing"]
def r_first_wrong (K : PySem.W.Frag) : RS :=
  (rSeq (rFor (rEn (rCons (rVar 0) rNil)) (rgTup 2 (rgCons (rgName 1) (rgCons (rgName 2) rgNil))) (rIfS (rOr (rTe (rOp geF (rVar 1) (rC (.int 24)))) (rOr (rNot (rTr (rCallG 1 (sp_is_trip K) (fun cs _ => cs) [] (rA1 (rCons (rVar 2) rNil))))) (rAnd (rTe (rOp gtF (rVar 1) (rC (.int 0)))) (rTe (rOp leF (rOp ixF (rVar 2) (rC (.int 0))) (rOp ixF (rOp ixF (rVar 0) (rOp (iF (fun _ _ => True) fun i j => i - j) (rVar 1) (rC (.int 1)))) (rC (.int 0)))))))) (rRet (rVar 1)) rPass))
  (rRet (rC .non)))
def N_first_wrong : List Str := ["thing", "index", "trip"]
def r_by_start (K : PySem.W.Frag) : RS :=
  (rRet (rLc (rIt (rCB sortF (rCons (rLc (rIt (rVar 0)) (rgName 2) rYes (rTup (rCons (rOp ixF (rVar 2) (rC (.int 1))) (rCons (rOp ixF (rVar 2) (rC (.int 0))) (rCons (rVar 2) rNil)))) [2]) rNil))) (rgName 1) rYes (rOp ixF (rVar 1) (rC (.int 2))) [1]))
def N_by_start : List Str := ["trips", "row", "trip"]
def r_Line___init__ (K : PySem.W.Frag) : RS :=
  (rSeq (rDrop (rCallG 1 (sp_check_seats K) (fun cs _ => cs) [] (rA1 (rCons (rVar 1) rNil))))
  (rSeq (rIfS (rNot (rTr (rCB (isiF K "tuple") (rCons (rVar 2) (rCons (rC (.raw (.ty "tuple"))) rNil))))) rNever rPass)
  (rSeq (rSet 3 (rCallG 1 (sp_first_wrong K) (fun cs _ => cs) [] (rA1 (rCons (rVar 2) rNil))))
  (rSeq (rIfS (rTe (rOp (isF true) (rVar 3) (rC .non))) rNever rPass)
  (rSeq (rSetF (He.ga K "Line") "width" (rVar 1) (rVar 0))
  (rSeq (rSetF (He.ga K "Line") "booked" (rVar 2) (rVar 0))
  (rSetF (He.ga K "Line") "rows" (rCallG 1 (sp_by_start K) (fun cs _ => cs) [] (rA1 (rCons (rVar 2) rNil))) (rVar 0))))))))
def N_Line___init__ : List Str := ["self", "seats", "trips", "index"]
def r__law_by_start (K : PySem.W.Frag) : RS :=
  (rSeq (rSet 1 (rCB sortF (rCons (rLc (rIt (rVar 0)) (rgName 2) rYes (rTup (rCons (rOp ixF (rVar 2) (rC (.int 1))) (rCons (rOp ixF (rVar 2) (rC (.int 0))) (rCons (rVar 2) rNil)))) [2]) rNil)))
  (rRet (rLc (rIt (rVar 1)) (rgName 3) rYes (rOp ixF (rVar 3) (rC (.int 2))) [3])))
def N__law_by_start : List Str := ["rides", "rows", "ride", "row"]
def r__law_load (K : PySem.W.Frag) : RS :=
  (rRet (rCB (c1F lenF) (rCons (rLc (rIt (rVar 0)) (rgName 2) (rTe (rChain leF ltF (rOp ixF (rVar 2) (rC (.int 1))) (rVar 1) (rOp ixF (rVar 2) (rC (.int 2))))) (rVar 2) [2]) rNil)))
def N__law_load : List Str := ["rides", "place", "ride"]
def r__law_meet (K : PySem.W.Frag) : RS :=
  (rRet (rAndV (rOp ltF (rOp ixF (rVar 0) (rC (.int 1))) (rOp ixF (rVar 1) (rC (.int 2)))) (rOp ltF (rOp ixF (rVar 1) (rC (.int 1))) (rOp ixF (rVar 0) (rC (.int 2))))))
def N__law_meet : List Str := ["one_ride", "more_ride"]
def r__law_product (K : PySem.W.Frag) : RS :=
  (rSeq (rAsg (rTup (rCons (rCallG 1 (sp__law_by_start K) (fun cs _ => cs) [] (rA1 (rCons (rVar 1) rNil))) (rCons (rC (.int 1)) rNil))) (rgTup 2 (rgCons (rgName 2) (rgCons (rgName 3) rgNil))))
  (rSeq (rFor (rRg1 (rCons (rCB (c1F lenF) (rCons (rVar 2) rNil)) rNil)) (rgName 4) (rSet 3 (rOp mulF (rVar 3) (rCB max2F (rCons (rC (.int 0)) (rCons (rOp (iF (fun _ _ => True) fun i j => i - j) (rVar 0) (rCB (c1F lenF) (rCons (rLc (rIt (rSl (rVar 2) rO0 (rO1 (rVar 4)))) (rgName 5) (rTr (rCallG 2 (sp__law_meet K) (fun cs _ => cs) [] (rA1 (rCons (rVar 5) (rCons (rOp ixF (rVar 2) (rVar 4)) rNil))))) (rVar 5) [5]) rNil))) rNil))))))
  (rRet (rVar 3))))
def N__law_product : List Str := ["width", "rides", "rows", "whole", "k", "each"]
def r_check_line (K : PySem.W.Frag) : RS :=
  (rIfS (rNot (rTr (rCB (isiCF K (He.ga K "Line")) (rCons (rVar 0) (rCons (rC (.raw (.ref (He.ga K "Line")))) rNil))))) rNever rPass)
def N_check_line : List Str := ["thing"]
def r_Line___len__ (K : PySem.W.Frag) : RS :=
  (rRet (rCB (c1F lenF) (rCons (rFld (He.ga K "Line") "booked" (rVar 0)) rNil)))
def N_Line___len__ : List Str := ["self"]
def r_Line_capacity (K : PySem.W.Frag) : RS :=
  (rRet (rFld (He.ga K "Line") "width" (rVar 0)))
def N_Line_capacity : List Str := ["self"]
def r_meet (K : PySem.W.Frag) : RS :=
  (rRet (rAndV (rOp ltF (rOp ixF (rVar 0) (rC (.int 1))) (rOp ixF (rVar 1) (rC (.int 2)))) (rOp ltF (rOp ixF (rVar 1) (rC (.int 1))) (rOp ixF (rVar 0) (rC (.int 2))))))
def N_meet : List Str := ["one", "other"]
def r_earlier (K : PySem.W.Frag) : RS :=
  (rRet (rLc (rIt (rSl (rFld (He.ga K "Line") "rows" (rVar 0)) rO0 (rO1 (rVar 1)))) (rgName 2) (rTr (rCallG 2 (sp_meet K) (fun cs _ => cs) [] (rA1 (rCons (rVar 2) (rCons (rOp ixF (rFld (He.ga K "Line") "rows" (rVar 0)) (rVar 1)) rNil))))) (rVar 2) [2]))
def N_earlier : List Str := ["line", "index", "trip"]
def r_sizes_of (K : PySem.W.Frag) : RS :=
  (rRet (rLc (rRg1 (rCons (rLenX (He.ga K "Line") (sp_Line___len__ K) (rCons (rVar 0) rNil)) rNil)) (rgName 1) rYes (rCB max2F (rCons (rC (.int 0)) (rCons (rOp (iF (fun _ _ => True) fun i j => i - j) (rProp (He.ga K "Line") (sp_Line_capacity K) (rVar 0)) (rCB (c1F lenF) (rCons (rCallG 2 (sp_earlier K) (fun cs _ => cs) [] (rA1 (rCons (rVar 0) (rCons (rVar 1) rNil)))) rNil))) rNil))) [1]))
def N_sizes_of : List Str := ["line", "index"]
def r_count (K : PySem.W.Frag) : RS :=
  (rSeq (rDrop (rCallG 1 (sp_check_line K) (fun cs _ => cs) [] (rA1 (rCons (rVar 0) rNil))))
  (rSeq (rSet 1 (rC (.int 1)))
  (rSeq (rFor (rIt (rCallG 1 (sp_sizes_of K) (fun cs _ => cs) [] (rA1 (rCons (rVar 0) rNil)))) (rgName 2) (rAug 1 (iF CMul fun i j => i * j) (rVar 2)))
  (rRet (rVar 1)))))
def N_count : List Str := ["line", "product", "size"]
def r_passes (K : PySem.W.Frag) : RS :=
  (rRet (rChain leF ltF (rOp ixF (rVar 0) (rC (.int 1))) (rVar 1) (rOp ixF (rVar 0) (rC (.int 2)))))
def N_passes : List Str := ["trip", "station"]
def r_load_of (K : PySem.W.Frag) : RS :=
  (rRet (rCB (c1F lenF) (rCons (rLc (rIt (rVar 0)) (rgName 2) (rTr (rCallG 2 (sp_passes K) (fun cs _ => cs) [] (rA1 (rCons (rVar 2) (rCons (rVar 1) rNil))))) (rVar 2) [2]) rNil)))
def N_load_of : List Str := ["trips", "station", "trip"]
def r_Line_load (K : PySem.W.Frag) : RS :=
  (rSeq (rIfS (rNot (rTr (rCallG 2 (sp_is_from K) (fun cs _ => cs) [] (rA1 (rCons (rVar 1) (rCons (rC (.int 0)) rNil)))))) rNever rPass)
  (rRet (rCallG 2 (sp_load_of K) (fun cs _ => cs) [] (rA1 (rCons (rFld (He.ga K "Line") "booked" (rVar 0)) (rCons (rVar 1) rNil))))))
def N_Line_load : List Str := ["self", "station"]
def r_overfull (K : PySem.W.Frag) : RS :=
  (rSeq (rDrop (rCallG 1 (sp_check_line K) (fun cs _ => cs) [] (rA1 (rCons (rVar 0) rNil))))
  (rSeq (rFor (rIt (rFld (He.ga K "Line") "rows" (rVar 0))) (rgName 1) (rIfS (rTe (rOp gtF (rMeth (He.ga K "Line") "load" 2 (sp_Line_load K) (fun cs _ => cs) (rVar 0) (rA1 (rCons (rOp ixF (rVar 1) (rC (.int 1))) rNil))) (rProp (He.ga K "Line") (sp_Line_capacity K) (rVar 0)))) (rRet (rOp ixF (rVar 1) (rC (.int 1)))) rPass))
  (rRet (rC .non))))
def N_overfull : List Str := ["line", "trip"]
def r__law_told (K : PySem.W.Frag) : RS :=
  (rSeq (rSet 2 (rMake false (He.ga K "Line") 3 (sp_Line___init__ K) (fun cs ks => cs ++ ks ++ []) (rC (.raw (.ref (He.ga K "Line")))) (rA1 (rCons (rVar 0) (rCons (rVar 1) rNil)))))
  (rSeq (rSet 3 (rLc (rIt (rCallG 1 (sp__law_by_start K) (fun cs _ => cs) [] (rA1 (rCons (rVar 1) rNil)))) (rgName 4) (rTe (rOp gtF (rCallG 2 (sp__law_load K) (fun cs _ => cs) [] (rA1 (rCons (rVar 1) (rCons (rOp ixF (rVar 4) (rC (.int 1))) rNil)))) (rVar 0))) (rOp ixF (rVar 4) (rC (.int 1))) [4]))
  (rSeq (rSet 5 (rLst (rCons (rOp ixF (rOp addF (rVar 3) (rLst (rCons (rC .non) rNil))) (rC (.int 0))) (rCons (rCallG 2 (sp__law_product K) (fun cs _ => cs) [] (rA1 (rCons (rVar 0) (rCons (rVar 1) rNil)))) rNil))))
  (rRet (rOp eqF (rCB (c1F reprF) (rCons (rOp addF (rLst (rCons (rCallG 1 (sp_overfull K) (fun cs _ => cs) [] (rA1 (rCons (rVar 2) rNil))) (rCons (rCallG 1 (sp_count K) (fun cs _ => cs) [] (rA1 (rCons (rVar 2) rNil))) rNil))) (rLst (rCons (rCallG 0 (sp_overfull K) (fun cs ks => cs ++ ks) [] (rAK0 (rCons (rVar 2) rNil))) (rCons (rCallG 0 (sp_count K) (fun cs ks => cs ++ ks) [] (rAK0 (rCons (rVar 2) rNil))) rNil)))) rNil)) (rCB (c1F reprF) (rCons (rOp mulF (rVar 5) (rC (.int 2))) rNil)))))))
def N__law_told : List Str := ["width", "rides", "board", "over", "ride", "due"]
def r__law_draw (K : PySem.W.Frag) : RS :=
  (rSeq (rAsg (rOp addF (rOp ixF (rVar 0) (rC (.int 2))) (rC (.int 1))) (rgSub (rVar 0) (rC (.int 2))))
  (rSeq (rSet 2 (rOp ixF (rVar 0) (rC (.int 0))))
  (rSeq (rAsg (rOp (iF (fun _ j => 0 < j) fun i j => i % j) (rOp addF (rOp addF (rOp mulF (rVar 2) (rOp addF (rOp (iF (fun _ j => 0 < j) fun i j => i % j) (rVar 2) (rC (.int 46007))) (rC (.int 20011)))) (rOp mulF (rC (.int 60013)) (rOp ixF (rVar 0) (rC (.int 2))))) (rC (.int 5))) (rC (.int 1000000007))) (rgSub (rVar 0) (rC (.int 0))))
  (rSeq (rIfS (rTe (rOp gtF (rOp ixF (rVar 0) (rC (.int 1))) (rC (.int 0)))) (rSeq (rAsg (rCB (c2F divmodF) (rCons (rOp ixF (rVar 0) (rC (.int 1))) (rCons (rVar 1) rNil))) (rgTup 2 (rgCons (rgSub (rVar 0) (rC (.int 1))) (rgCons (rgName 3) rgNil))))
  (rRet (rVar 3))) rPass)
  (rRet (rOp (iF (fun _ j => 0 < j) fun i j => i % j) (rOp (iF CDiv fun i j => i / j) (rOp ixF (rVar 0) (rC (.int 0))) (rC (.int 32))) (rVar 1)))))))
def N__law_draw : List Str := ["pool", "many", "state", "digit"]
def r__law_far (K : PySem.W.Frag) : RS :=
  (rSeq (rPar3 2 3 4 (rCons (rNewL rNil) (rCons (rCallG 2 (sp__law_draw K) (fun cs _ => cs) [] (rA1 (rCons (rVar 0) (rCons (rC (.int 3)) rNil)))) (rCons (rCallG 2 (sp__law_draw K) (fun cs _ => cs) [] (rA1 (rCons (rVar 0) (rCons (rC (.int 3)) rNil)))) rNil))))
  (rSeq (rFor (rRg1 (rCons (rOp addF (rVar 1) (rC (.int 1))) rNil)) (rgName 5) (rSeq (rDrop (rMl appF (rVar 2) (rCons (rIf (rTe (rOp gtF (rVar 4) (rC (.int 0)))) (rVar 5) (rVar 3)) rNil)))
  (rSet 3 (rOp addF (rOp addF (rVar 3) (rC (.int 1))) (rOp ixF (rLst (rCons (rC (.int 0)) (rCons (rCallG 2 (sp__law_draw K) (fun cs _ => cs) [] (rA1 (rCons (rVar 0) (rCons (rC (.int 9)) rNil)))) (rCons (rOp (iF CPow fun i j => i ^ j.toNat) (rC (.int 10)) (rC (.int 29))) rNil)))) (rCallG 2 (sp__law_draw K) (fun cs _ => cs) [] (rA1 (rCons (rVar 0) (rCons (rC (.int 3)) rNil)))))))))
  (rRet (rVar 2))))
def N__law_far : List Str := ["pool", "high", "found", "here", "way", "k"]
def r__law_rides (K : PySem.W.Frag) : RS :=
  (rSeq (rPar3 3 4 5 (rCons (rCallG 2 (sp__law_far K) (fun cs _ => cs) [] (rA1 (rCons (rVar 0) (rCons (rVar 2) rNil)))) (rCons (rNewL rNil) (rCons (rC (.int 0)) rNil))))
  (rSeq (rFor (rIt (rVar 1)) (rgName 6) (rSeq (rSet 7 (rCallG 2 (sp__law_draw K) (fun cs _ => cs) [] (rA1 (rCons (rVar 0) (rCons (rC (.int 4)) rNil)))))
  (rSeq (rSet 8 (rIf (rAnd (rTe (rOp eqF (rVar 7) (rC (.int 0)))) (rTe (rOp ltF (rVar 5) (rVar 2)))) (rVar 5) (rCallG 2 (sp__law_draw K) (fun cs _ => cs) [] (rA1 (rCons (rVar 0) (rCons (rVar 2) rNil))))))
  (rSeq (rSet 5 (rOp addF (rOp addF (rVar 8) (rC (.int 1))) (rCallG 2 (sp__law_draw K) (fun cs _ => cs) [] (rA1 (rCons (rVar 0) (rCons (rIf (rTe (rOp gtF (rOp (iF (fun _ _ => True) fun i j => i - j) (rVar 2) (rVar 8)) (rC (.int 1)))) (rOp ixF (rLst (rCons (rC (.int 1)) (rCons (rC (.int 2)) (rCons (rOp (iF (fun _ _ => True) fun i j => i - j) (rVar 2) (rVar 8)) (rCons (rOp (iF (fun _ _ => True) fun i j => i - j) (rVar 2) (rVar 8)) rNil))))) (rVar 7)) (rC (.int 1))) rNil))))))
  (rSeq (rSet 5 (rCB min2F (rCons (rVar 5) (rCons (rVar 2) rNil))))
  (rDrop (rMl appF (rVar 4) (rCons (rTup (rCons (rVar 6) (rCons (rOp ixF (rVar 3) (rVar 8)) (rCons (rOp ixF (rVar 3) (rVar 5)) rNil)))) rNil))))))))
  (rRet (rCB (c1F tupleF) (rCons (rCB sortF (rCons (rVar 4) rNil)) rNil)))))
def N__law_rides : List Str := ["pool", "words", "high", "places", "found", "last", "word", "way", "begin"]
def r__law_words (K : PySem.W.Frag) : RS :=
  (rSeq (rSet 2 (rC (.str "abcdefghijklmnopqrstuvwxyz")))
  (rSeq (rSet 3 (rLst (rCons (rC (.str "book")) (rCons (rC (.str "cancel")) (rCons (rC (.str "exchange")) (rCons (rC (.str "shift")) (rCons (rC (.str "seats")) (rCons (rC (.str "undo")) (rCons (rC (.str "show")) (rCons (rC (.str "line")) (rCons (rC (.str "count")) (rCons (rC (.str "number")) (rCons (rC (.str "load")) (rCons (rC (.str "trip")) rNil))))))))))))))
  (rSeq (rSet 3 (rOp addF (rVar 3) (rLst (rCons (rC (.str "none")) (rCons (rC (.str "cut")) (rCons (rC (.str "overfull")) (rCons (rC (.str "a")) (rCons (rC (.str "b")) (rCons (rC (.str "x")) (rCons (rC (.str "plan")) (rCons (rC (.str "route")) (rCons (rC (.str "fixed")) (rCons (rC (.str "full")) (rCons (rC (.str "goal")) (rCons (rC (.str "name")) rNil)))))))))))))))
  (rSeq (rAsg (rTup (rCons (rCallG 2 (sp__law_draw K) (fun cs _ => cs) [] (rA1 (rCons (rVar 0) (rCons (rC (.int 3)) rNil)))) (rCons (rCallG 2 (sp__law_draw K) (fun cs _ => cs) [] (rA1 (rCons (rVar 0) (rCons (rC (.int 24)) rNil)))) rNil))) (rgTup 2 (rgCons (rgName 4) (rgCons (rgName 5) rgNil))))
  (rSeq (rIfS (rTe (rOp eqF (rVar 4) (rC (.int 0)))) (rRet (rLc (rRg1 (rCons (rVar 1) rNil)) (rgName 6) rYes (rOp ixF (rVar 3) (rOp (iF (fun _ j => 0 < j) fun i j => i % j) (rOp addF (rVar 5) (rOp mulF (rC (.int 5)) (rVar 6))) (rC (.int 24)))) [6])) rPass)
  (rSeq (rIfS (rTe (rOp eqF (rVar 4) (rC (.int 1)))) (rRet (rLc (rRg1 (rCons (rVar 1) rNil)) (rgName 6) rYes (rOp mulF (rOp ixF (rVar 2) (rOp (iF (fun _ j => 0 < j) fun i j => i % j) (rOp addF (rVar 5) (rOp mulF (rC (.int 7)) (rVar 6))) (rC (.int 26)))) (rOp addF (rC (.int 1)) (rOp (iF (fun _ j => 0 < j) fun i j => i % j) (rVar 6) (rC (.int 8))))) [6])) rPass)
  (rSeq (rSet 7 (rMtS joinF (rC (.str "")) (rCons (rLc (rRg1 (rCons (rCallG 2 (sp__law_draw K) (fun cs _ => cs) [] (rA1 (rCons (rVar 0) (rCons (rC (.int 8)) rNil)))) rNil)) (rgName 6) rYes (rOp ixF (rVar 2) (rCallG 2 (sp__law_draw K) (fun cs _ => cs) [] (rA1 (rCons (rVar 0) (rCons (rC (.int 26)) rNil))))) [6]) rNil)))
  (rSeq (rSet 8 (rCallG 2 (sp__law_draw K) (fun cs _ => cs) [] (rA1 (rCons (rVar 0) (rCons (rOp addF (rCB (c1F lenF) (rCons (rVar 7) rNil)) (rC (.int 1))) rNil)))))
  (rRet (rLc (rRg1 (rCons (rVar 1) rNil)) (rgName 6) rYes (rOp addF (rOp addF (rSl (rVar 7) rO0 (rO1 (rVar 8))) (rOp ixF (rVar 2) (rOp (iF (fun _ j => 0 < j) fun i j => i % j) (rOp addF (rVar 5) (rOp mulF (rC (.int 5)) (rVar 6))) (rC (.int 26))))) (rSl (rVar 7) (rO1 (rVar 8)) rO0)) [6]))))))))))
def N__law_words : List Str := ["pool", "many", "letters", "menu", "way", "begin", "k", "stem", "at"]
def r__law_peak (K : PySem.W.Frag) : RS :=
  (rRet (rCB max2F (rCons (rOp addF (rLc (rIt (rVar 0)) (rgName 1) rYes (rCallG 2 (sp__law_load K) (fun cs _ => cs) [] (rA1 (rCons (rVar 0) (rCons (rOp ixF (rVar 1) (rC (.int 1))) rNil)))) [1]) (rLst (rCons (rC (.int 0)) rNil))) rNil)))
def N__law_peak : List Str := ["rides", "ride"]
def r__law_long_case (K : PySem.W.Frag) : RS :=
  (rSeq (rPar 1 2 (rCons (rCallG 2 (sp__law_draw K) (fun cs _ => cs) [] (rA1 (rCons (rVar 0) (rCons (rC (.int 25)) rNil)))) (rCons (rOp addF (rC (.int 1)) (rCallG 2 (sp__law_draw K) (fun cs _ => cs) [] (rA1 (rCons (rVar 0) (rCons (rC (.int 30)) rNil))))) rNil)))
  (rSeq (rSet 3 (rCallG 3 (sp__law_rides K) (fun cs _ => cs) [] (rA1 (rCons (rVar 0) (rCons (rCallG 2 (sp__law_words K) (fun cs _ => cs) [] (rA1 (rCons (rVar 0) (rCons (rVar 1) rNil)))) (rCons (rVar 2) rNil))))))
  (rSeq (rSet 4 (rOp addF (rCallG 1 (sp__law_peak K) (fun cs _ => cs) [] (rA1 (rCons (rVar 3) rNil))) (rOp ixF (rLst (rCons (rC (.int 0)) (rCons (rC (.int 0)) (rCons (rC (.int 1)) (rCons (rC (.int 3)) rNil))))) (rCallG 2 (sp__law_draw K) (fun cs _ => cs) [] (rA1 (rCons (rVar 0) (rCons (rC (.int 4)) rNil)))))))
  (rSeq (rIfS (rTe (rOp eqF (rCallG 2 (sp__law_draw K) (fun cs _ => cs) [] (rA1 (rCons (rVar 0) (rCons (rC (.int 6)) rNil)))) (rC (.int 0)))) (rSet 4 (rOp addF (rC (.int 1)) (rCallG 2 (sp__law_draw K) (fun cs _ => cs) [] (rA1 (rCons (rVar 0) (rCons (rC (.int 20)) rNil)))))) rPass)
  (rRet (rLst (rCons (rCB max2F (rCons (rC (.int 1)) (rCons (rCB min2F (rCons (rC (.int 20)) (rCons (rVar 4) rNil))) rNil))) (rCons (rVar 3) rNil))))))))
def N__law_long_case : List Str := ["pool", "many", "high", "rides", "width"]
def r__law_right (K : PySem.W.Frag) : RS :=
  (rSeq (rAsg (rCallG 1 (sp__law_long_case K) (fun cs _ => cs) [] (rA1 (rCons (rVar 0) rNil))) (rgTup 2 (rgCons (rgName 1) (rgCons (rgName 2) rgNil))))
  (rSeq (rFor (rIt (rLst (rCons (rVar 1) (rCons (rOp addF (rC (.int 1)) (rOp (iF (fun _ j => 0 < j) fun i j => i % j) (rVar 1) (rC (.int 20)))) (rCons (rCB max2F (rCons (rC (.int 1)) (rCons (rOp (iF (fun _ _ => True) fun i j => i - j) (rVar 1) (rC (.int 1))) rNil))) (rCons (rC (.int 20)) (rCons (rC (.int 1)) (rCons (rVar 1) rNil)))))))) (rgName 3) (rIfS (rOr (rNot (rTr (rCallG 2 (sp__law_told K) (fun cs _ => cs) [] (rA1 (rCons (rVar 3) (rCons (rVar 2) rNil)))))) (rOr (rNot (rTr (rCallG 2 (sp__law_told K) (fun cs _ => cs) [] (rA1 (rCons (rVar 3) (rCons (rSl (rVar 2) (rO1 (rC (.int 1))) rO0) rNil)))))) (rNot (rTr (rCallG 2 (sp__law_told K) (fun cs _ => cs) [] (rA1 (rCons (rVar 3) (rCons (rSl (rVar 2) rO0 (rO1 (rC (.int 4)))) rNil)))))))) (rRet (rC (.bl false))) rPass))
  (rSeq (rSet 4 (rCallG 3 (sp__law_rides K) (fun cs _ => cs) [] (rA1 (rCons (rVar 0) (rCons (rLc (rIt (rVar 2)) (rgName 5) rYes (rOp ixF (rVar 5) (rC (.int 0))) [5]) (rCons (rOp addF (rC (.int 1)) (rCallG 2 (sp__law_draw K) (fun cs _ => cs) [] (rA1 (rCons (rVar 0) (rCons (rC (.int 30)) rNil))))) rNil))))))
  (rRet (rCB (c1F allF) (rCons (rLc (rIt (rLst (rCons (rVar 4) (rCons (rVar 2) (rCons (rVar 4) (rCons (rVar 2) rNil)))))) (rgName 6) rYes (rCallG 2 (sp__law_told K) (fun cs _ => cs) [] (rA1 (rCons (rVar 1) (rCons (rVar 6) rNil)))) [6]) rNil))))))
def N__law_right : List Str := ["pool", "width", "rides", "wide", "others", "ride", "each"]
def r__law_pool (K : PySem.W.Frag) : RS :=
  (rSeq (rSet 1 (rC (.int 0)))
  (rSeq (rIfS (rOr (rTe (rOp ltF (rVar 0) (rC (.int 0)))) (rTe (rOp geF (rVar 0) (rOp (iF CPow fun i j => i ^ j.toNat) (rC (.int 10)) (rC (.int 18)))))) (rSet 1 (rCB (c1F absF) (rCons (rVar 0) rNil))) rPass)
  (rRet (rNewL (rCons (rOp (iF (fun _ j => 0 < j) fun i j => i % j) (rVar 0) (rC (.int 1000000007))) (rCons (rVar 1) (rCons (rC (.int 0)) rNil)))))))
def N__law_pool : List Str := ["cell", "digits"]
def r__law_cell (K : PySem.W.Frag) : RS :=
  (rSeq (rIfS (rTe (rOp ltF (rVar 1) (rCB (c1F lenF) (rCons (rVar 0) rNil)))) (rRet (rOp ixF (rVar 0) (rVar 1))) rPass)
  (rSeq (rSet 2 (rOp (iF (fun _ j => 0 < j) fun i j => i % j) (rOp mulF (rC (.int 50021)) (rOp addF (rOp addF (rOp mulF (rVar 1) (rVar 1)) (rOp mulF (rC (.int 7)) (rVar 1))) (rC (.int 3)))) (rC (.int 1000000007))))
  (rSeq (rFor (rIt (rSl (rVar 0) rO0 (rO1 (rC (.int 3))))) (rgName 3) (rSet 2 (rOp (iF (fun _ j => 0 < j) fun i j => i % j) (rOp addF (rOp mulF (rVar 2) (rC (.int 30011))) (rVar 3)) (rC (.int 1000000007)))))
  (rRet (rVar 2)))))
def N__law_cell : List Str := ["script", "k", "state", "cell"]
def r_law (K : PySem.W.Frag) : RS :=
  (rSeq (rSet 1 (rC (.str "abcdefghijklmnopqrstuvwx")))
  (rSeq (rSet 2 (rNewL (rCons (rCB (c1F tupleF) (rCons (rLc (rEnS (rCons (rVar 1) rNil)) (rgTup 2 (rgCons (rgName 3) (rgCons (rgName 4) rgNil))) rYes (rTup (rCons (rVar 4) (rCons (rVar 3) (rCons (rOp addF (rVar 3) (rC (.int 1))) rNil)))) [3, 4]) rNil)) rNil)))
  (rSeq (rDrop (rMl appF (rVar 2) (rCons (rCB (c1F tupleF) (rCons (rLc (rIt (rVar 1)) (rgName 4) rYes (rTup (rCons (rVar 4) (rCons (rC (.int 0)) (rCons (rC (.int 1)) rNil)))) [4]) rNil)) rNil)))
  (rSeq (rDrop (rMl appF (rVar 2) (rCons (rCB (c1F tupleF) (rCons (rLc (rEnS (rCons (rVar 1) rNil)) (rgTup 2 (rgCons (rgName 3) (rgCons (rgName 4) rgNil))) rYes (rTup (rCons (rVar 4) (rCons (rOp (iF (fun _ _ => True) fun i j => i - j) (rC (.int 24)) (rVar 3)) (rCons (rOp addF (rOp (iF CPow fun i j => i ^ j.toNat) (rC (.int 10)) (rC (.int 59))) (rVar 3)) rNil)))) [3, 4]) rNil)) rNil)))
  (rSeq (rDrop (rMl appF (rVar 2) (rCons (rTup (rCons (rTup (rCons (rC (.str "a")) (rCons (rOp (iF CPow fun i j => i ^ j.toNat) (rC (.int 10)) (rC (.int 59))) (rCons (rOp addF (rOp (iF CPow fun i j => i ^ j.toNat) (rC (.int 10)) (rC (.int 59))) (rC (.int 1))) rNil)))) (rCons (rTup (rCons (rC (.str "b")) (rCons (rC (.int 0)) (rCons (rOp addF (rOp (iF CPow fun i j => i ^ j.toNat) (rC (.int 10)) (rC (.int 59))) (rC (.int 1))) rNil)))) (rCons (rTup (rCons (rC (.str "c")) (rCons (rOp (iF (fun _ _ => True) fun i j => i - j) (rOp (iF CPow fun i j => i ^ j.toNat) (rC (.int 10)) (rC (.int 59))) (rC (.int 1))) (rCons (rOp (iF CPow fun i j => i ^ j.toNat) (rC (.int 10)) (rC (.int 59))) rNil)))) rNil)))) rNil)))
  (rSeq (rFor (rIt (rLst (rCons (rC (.int 1)) (rCons (rC (.int 2)) (rCons (rC (.int 3)) (rCons (rC (.int 19)) (rCons (rC (.int 20)) rNil))))))) (rgName 5) (rIfS (rOr (rNot (rTr (rCallG 2 (sp__law_told K) (fun cs _ => cs) [] (rA1 (rCons (rVar 5) (rCons (rTup rNil) rNil)))))) (rNot (rTr (rCB (c1F allF) (rCons (rLc (rIt (rVar 2)) (rgName 6) rYes (rCallG 2 (sp__law_told K) (fun cs _ => cs) [] (rA1 (rCons (rVar 5) (rCons (rVar 6) rNil)))) [6]) rNil))))) (rRet (rC (.bl false))) rPass))
  (rSeq (rIfS (rOr (rTe (rOp neF (rCallG 1 (sp_count K) (fun cs _ => cs) [] (rA1 (rCons (rMake false (He.ga K "Line") 3 (sp_Line___init__ K) (fun cs ks => cs ++ ks ++ []) (rC (.raw (.ref (He.ga K "Line")))) (rA1 (rCons (rC (.int 20)) (rCons (rOp ixF (rVar 2) (rC (.int 0))) rNil)))) rNil))) (rOp (iF CPow fun i j => i ^ j.toNat) (rC (.int 20)) (rC (.int 24))))) (rTe (rOp neF (rCallG 1 (sp_count K) (fun cs _ => cs) [] (rA1 (rCons (rMake false (He.ga K "Line") 3 (sp_Line___init__ K) (fun cs ks => cs ++ ks ++ []) (rC (.raw (.ref (He.ga K "Line")))) (rA1 (rCons (rC (.int 20)) (rCons (rSl (rOp ixF (rVar 2) (rC (.int 1))) rO0 (rO1 (rC (.int 20)))) rNil)))) rNil))) (rCallG 2 (sp__law_product K) (fun cs _ => cs) [] (rA1 (rCons (rC (.int 20)) (rCons (rSl (rOp ixF (rVar 2) (rC (.int 1))) rO0 (rO1 (rC (.int 20)))) rNil))))))) (rRet (rC (.bl false))) rPass)
  (rRet (rCB (c1F allF) (rCons (rLc (rRg1 (rCons (rCB max2F (rCons (rC (.int 2)) (rCons (rCB min2F (rCons (rCB (c1F lenF) (rCons (rVar 0) rNil)) (rCons (rC (.int 6)) rNil))) rNil))) rNil)) (rgName 3) rYes (rCallG 1 (sp__law_right K) (fun cs _ => cs) [] (rA1 (rCons (rCallG 1 (sp__law_pool K) (fun cs _ => cs) [] (rA1 (rCons (rCallG 2 (sp__law_cell K) (fun cs _ => cs) [] (rA1 (rCons (rVar 0) (rCons (rVar 3) rNil)))) rNil))) rNil))) [3]) rNil))))))))))
def N_law : List Str := ["script", "letters", "rows", "k", "letter", "wide", "rides"]
/-! ### the text -/
abbrev R : PySem.W.OpenRow := PySem.W.OpenLaw.row PySem.Challenge.rw_seatchains_k12_overfull_and_count
def ix : Nat := R.prog.main.body.length - 1
def top (i : Nat) : Stmt := R.prog.main.body.getD i (.Pass ⟨0, 0, 0, 0⟩)
def clAt (s : Stmt) (i : Nat) : Stmt := (match s with
  | .ClassDef _ _ _ b _ _ _ _ _ _ _ => b
  | _ => []).getD i (.Pass ⟨0, 0, 0, 0⟩)
def dq_is_whole : Dq := ⟨fun K => He.ga K "is_whole", "is_whole", "is_whole", defArgs (top 4), defBody (top 4), defScope (top 4), []⟩
def dq_is_between : Dq := ⟨fun K => He.ga K "is_between", "is_between", "is_between", defArgs (top 6), defBody (top 6), defScope (top 6), []⟩
def dq_check_seats : Dq := ⟨fun K => He.ga K "check_seats", "check_seats", "check_seats", defArgs (top 23), defBody (top 23), defScope (top 23), []⟩
def dq_is_name : Dq := ⟨fun K => He.ga K "is_name", "is_name", "is_name", defArgs (top 7), defBody (top 7), defScope (top 7), []⟩
def dq_is_from : Dq := ⟨fun K => He.ga K "is_from", "is_from", "is_from", defArgs (top 5), defBody (top 5), defScope (top 5), []⟩
def dq_is_trip : Dq := ⟨fun K => He.ga K "is_trip", "is_trip", "is_trip", defArgs (top 8), defBody (top 8), defScope (top 8), []⟩
def dq_first_wrong : Dq := ⟨fun K => He.ga K "first_wrong", "first_wrong", "first_wrong", defArgs (top 24), defBody (top 24), defScope (top 24), []⟩
def dq_by_start : Dq := ⟨fun K => He.ga K "by_start", "by_start", "by_start", defArgs (top 25), defBody (top 25), defScope (top 25), []⟩
def dq_Line___init__ : Dq := ⟨fun K => He.ma K (He.ga K "Line") "__init__", "__init__", "Line.__init__", defArgs (clAt (top 28) 2), defBody (clAt (top 28) 2), defScope (clAt (top 28) 2), [.adr (He.dflAt ("Line", some "__init__") 0)]⟩
def dq__law_by_start : Dq := ⟨fun K => He.ga K "_law_by_start", "_law_by_start", "_law_by_start", defArgs (top 44), defBody (top 44), defScope (top 44), []⟩
def dq__law_load : Dq := ⟨fun K => He.ga K "_law_load", "_law_load", "_law_load", defArgs (top 45), defBody (top 45), defScope (top 45), []⟩
def dq__law_meet : Dq := ⟨fun K => He.ga K "_law_meet", "_law_meet", "_law_meet", defArgs (top 43), defBody (top 43), defScope (top 43), []⟩
def dq__law_product : Dq := ⟨fun K => He.ga K "_law_product", "_law_product", "_law_product", defArgs (top 47), defBody (top 47), defScope (top 47), []⟩
def dq_check_line : Dq := ⟨fun K => He.ga K "check_line", "check_line", "check_line", defArgs (top 30), defBody (top 30), defScope (top 30), []⟩
def dq_Line___len__ : Dq := ⟨fun K => He.ma K (He.ga K "Line") "__len__", "__len__", "Line.__len__", defArgs (clAt (top 28) 11), defBody (clAt (top 28) 11), defScope (clAt (top 28) 11), []⟩
def dq_Line_capacity : Dq := ⟨pGet "Line" "capacity", "capacity", "Line.capacity", defArgs (clAt (top 28) 6), defBody (clAt (top 28) 6), defScope (clAt (top 28) 6), []⟩
def dq_meet : Dq := ⟨fun K => He.ga K "meet", "meet", "meet", defArgs (top 10), defBody (top 10), defScope (top 10), []⟩
def dq_earlier : Dq := ⟨fun K => He.ga K "earlier", "earlier", "earlier", defArgs (top 32), defBody (top 32), defScope (top 32), []⟩
def dq_sizes_of : Dq := ⟨fun K => He.ga K "sizes_of", "sizes_of", "sizes_of", defArgs (top 33), defBody (top 33), defScope (top 33), []⟩
def dq_count : Dq := ⟨fun K => He.ga K "count", "count", "count", defArgs (top 35), defBody (top 35), defScope (top 35), []⟩
def dq_passes : Dq := ⟨fun K => He.ga K "passes", "passes", "passes", defArgs (top 11), defBody (top 11), defScope (top 11), []⟩
def dq_load_of : Dq := ⟨fun K => He.ga K "load_of", "load_of", "load_of", defArgs (top 29), defBody (top 29), defScope (top 29), []⟩
def dq_Line_load : Dq := ⟨fun K => He.ma K (He.ga K "Line") "load", "load", "Line.load", defArgs (clAt (top 28) 14), defBody (clAt (top 28) 14), defScope (clAt (top 28) 14), []⟩
def dq_overfull : Dq := ⟨fun K => He.ga K "overfull", "overfull", "overfull", defArgs (top 34), defBody (top 34), defScope (top 34), []⟩
def dq__law_told : Dq := ⟨fun K => He.ga K "_law_told", "_law_told", "_law_told", defArgs (top 49), defBody (top 49), defScope (top 49), []⟩
def dq__law_draw : Dq := ⟨fun K => He.ga K "_law_draw", "_law_draw", "_law_draw", defArgs (top 39), defBody (top 39), defScope (top 39), []⟩
def dq__law_far : Dq := ⟨fun K => He.ga K "_law_far", "_law_far", "_law_far", defArgs (top 41), defBody (top 41), defScope (top 41), []⟩
def dq__law_rides : Dq := ⟨fun K => He.ga K "_law_rides", "_law_rides", "_law_rides", defArgs (top 42), defBody (top 42), defScope (top 42), []⟩
def dq__law_words : Dq := ⟨fun K => He.ga K "_law_words", "_law_words", "_law_words", defArgs (top 40), defBody (top 40), defScope (top 40), []⟩
def dq__law_peak : Dq := ⟨fun K => He.ga K "_law_peak", "_law_peak", "_law_peak", defArgs (top 46), defBody (top 46), defScope (top 46), []⟩
def dq__law_long_case : Dq := ⟨fun K => He.ga K "_law_long_case", "_law_long_case", "_law_long_case", defArgs (top 48), defBody (top 48), defScope (top 48), []⟩
def dq__law_right : Dq := ⟨fun K => He.ga K "_law_right", "_law_right", "_law_right", defArgs (top 50), defBody (top 50), defScope (top 50), []⟩
def dq__law_pool : Dq := ⟨fun K => He.ga K "_law_pool", "_law_pool", "_law_pool", defArgs (top 38), defBody (top 38), defScope (top 38), []⟩
def dq__law_cell : Dq := ⟨fun K => He.ga K "_law_cell", "_law_cell", "_law_cell", defArgs (top 37), defBody (top 37), defScope (top 37), []⟩
def dq_law : Dq := ⟨fun K => He.ga K "law", "law", "law", defArgs (top 51), defBody (top 51), defScope (top 51), []⟩
def fa : List Fq := [qFree "tuple", qFree "enumerate", qFree "all", qFree "isinstance", qFree "bool", qFree "int", qGlo "is_whole", qInt "MAX_SEATS" (20), qGlo "is_between", qGlo "check_seats", qStr "LETTERS" "abcdefghijklmnopqrstuvwxyz", qFree "len", qFree "str", qGlo "is_name", qGlo "is_from", qGlo "is_trip", qInt "MAX_TRIPS" (24), qGlo "first_wrong", qCls "Line", qNo "Line" "width", qNo "Line" "booked", qFree "sorted", qGlo "by_start", qNo "Line" "rows", qNilT (He.dflAt ("Line", some "__init__") 0), qMk "Line", qGlo "Line", qGlo "_law_by_start", qGlo "_law_load", qFree "range", qFree "max", qGlo "_law_meet", qGlo "_law_product", qFree "repr", qClsT "Line", qGlo "check_line", qSpc "Line" "__len__", qProp "Line" "capacity", qGlo "meet", qGlo "earlier", qGlo "sizes_of", qGlo "count", qGlo "passes", qGlo "load_of", qMeth "Line" "load", qGlo "overfull", qGlo "_law_told", qFree "min", qFree "divmod", qGlo "_law_draw", qGlo "_law_far", qGlo "_law_words", qGlo "_law_rides", qGlo "_law_peak", qGlo "_law_long_case", qFree "abs", qGlo "_law_cell", qGlo "_law_pool", qGlo "_law_right", qGlo "law", qIns "Line"]
def fn : List Dq := [dq_is_whole, dq_is_between, dq_check_seats, dq_is_name, dq_is_from, dq_is_trip, dq_first_wrong, dq_by_start, dq_Line___init__, dq__law_by_start, dq__law_load, dq__law_meet, dq__law_product, dq_check_line, dq_Line___len__, dq_Line_capacity, dq_meet, dq_earlier, dq_sizes_of, dq_count, dq_passes, dq_load_of, dq_Line_load, dq_overfull, dq__law_told, dq__law_draw, dq__law_far, dq__law_rides, dq__law_words, dq__law_peak, dq__law_long_case, dq__law_right, dq__law_pool, dq__law_cell, dq_law]
/-- what the top leaves -/
structure Zed (K : PySem.W.Frag) (mg : Str → Option Value) : Prop where
  ex : ∃ h : Heap, K.In h ∧ h.Ns mainGlobals mg ∧ Says fa fn K
section
variable {K : PySem.W.Frag} {mg : Str → Option Value}
theorem zq0 (Z : Zed K mg) : mg "tuple" = none := let ⟨h, X, G, c⟩ := Z.ex; He.free_ok X G (c.fact (f := qFree "tuple") 0 rfl)
theorem zq1 (Z : Zed K mg) : mg "enumerate" = none := let ⟨h, X, G, c⟩ := Z.ex; He.free_ok X G (c.fact (f := qFree "enumerate") 1 rfl)
theorem zq2 (Z : Zed K mg) : mg "all" = none := let ⟨h, X, G, c⟩ := Z.ex; He.free_ok X G (c.fact (f := qFree "all") 2 rfl)
theorem zq3 (Z : Zed K mg) : mg "isinstance" = none := let ⟨h, X, G, c⟩ := Z.ex; He.free_ok X G (c.fact (f := qFree "isinstance") 3 rfl)
theorem zq4 (Z : Zed K mg) : mg "bool" = none := let ⟨h, X, G, c⟩ := Z.ex; He.free_ok X G (c.fact (f := qFree "bool") 4 rfl)
theorem zq5 (Z : Zed K mg) : mg "int" = none := let ⟨h, X, G, c⟩ := Z.ex; He.free_ok X G (c.fact (f := qFree "int") 5 rfl)
theorem zq6 (Z : Zed K mg) : mg "is_whole" = some (.ref (He.ga K "is_whole")) := let ⟨h, X, G, c⟩ := Z.ex; He.glo_ok X G (c.fact (f := qGlo "is_whole") 6 rfl)
theorem zq7 (Z : Zed K mg) : ∃ t, mg "MAX_SEATS" = some (.int (20) t) := let ⟨h, X, G, c⟩ := Z.ex; He.int_ok X G (c.fact (f := qInt "MAX_SEATS" (20)) 7 rfl)
theorem zq8 (Z : Zed K mg) : mg "is_between" = some (.ref (He.ga K "is_between")) := let ⟨h, X, G, c⟩ := Z.ex; He.glo_ok X G (c.fact (f := qGlo "is_between") 8 rfl)
theorem zq9 (Z : Zed K mg) : mg "check_seats" = some (.ref (He.ga K "check_seats")) := let ⟨h, X, G, c⟩ := Z.ex; He.glo_ok X G (c.fact (f := qGlo "check_seats") 9 rfl)
theorem zq10 (Z : Zed K mg) : ∃ t, mg "LETTERS" = some (.str "abcdefghijklmnopqrstuvwxyz" t) := let ⟨h, X, G, c⟩ := Z.ex; He.str_ok X G (c.fact (f := qStr "LETTERS" "abcdefghijklmnopqrstuvwxyz") 10 rfl)
theorem zq11 (Z : Zed K mg) : mg "len" = none := let ⟨h, X, G, c⟩ := Z.ex; He.free_ok X G (c.fact (f := qFree "len") 11 rfl)
theorem zq12 (Z : Zed K mg) : mg "str" = none := let ⟨h, X, G, c⟩ := Z.ex; He.free_ok X G (c.fact (f := qFree "str") 12 rfl)
theorem zq13 (Z : Zed K mg) : mg "is_name" = some (.ref (He.ga K "is_name")) := let ⟨h, X, G, c⟩ := Z.ex; He.glo_ok X G (c.fact (f := qGlo "is_name") 13 rfl)
theorem zq14 (Z : Zed K mg) : mg "is_from" = some (.ref (He.ga K "is_from")) := let ⟨h, X, G, c⟩ := Z.ex; He.glo_ok X G (c.fact (f := qGlo "is_from") 14 rfl)
theorem zq15 (Z : Zed K mg) : mg "is_trip" = some (.ref (He.ga K "is_trip")) := let ⟨h, X, G, c⟩ := Z.ex; He.glo_ok X G (c.fact (f := qGlo "is_trip") 15 rfl)
theorem zq16 (Z : Zed K mg) : ∃ t, mg "MAX_TRIPS" = some (.int (24) t) := let ⟨h, X, G, c⟩ := Z.ex; He.int_ok X G (c.fact (f := qInt "MAX_TRIPS" (24)) 16 rfl)
theorem zq17 (Z : Zed K mg) : mg "first_wrong" = some (.ref (He.ga K "first_wrong")) := let ⟨h, X, G, c⟩ := Z.ex; He.glo_ok X G (c.fact (f := qGlo "first_wrong") 17 rfl)
theorem zq18 (Z : Zed K mg) : Cls K (He.ga K "Line") := let ⟨h, X, G, c⟩ := Z.ex; He.cls_ok (c.fact (f := qCls "Line") 18 rfl)
theorem zq19 (Z : Zed K mg) : NoAttr K (He.ga K "Line") "width" := let ⟨h, X, G, c⟩ := Z.ex; He.noat_ok (c.fact (f := qNo "Line" "width") 19 rfl)
theorem zq20 (Z : Zed K mg) : NoAttr K (He.ga K "Line") "booked" := let ⟨h, X, G, c⟩ := Z.ex; He.noat_ok (c.fact (f := qNo "Line" "booked") 20 rfl)
theorem zq21 (Z : Zed K mg) : mg "sorted" = none := let ⟨h, X, G, c⟩ := Z.ex; He.free_ok X G (c.fact (f := qFree "sorted") 21 rfl)
theorem zq22 (Z : Zed K mg) : mg "by_start" = some (.ref (He.ga K "by_start")) := let ⟨h, X, G, c⟩ := Z.ex; He.glo_ok X G (c.fact (f := qGlo "by_start") 22 rfl)
theorem zq23 (Z : Zed K mg) : NoAttr K (He.ga K "Line") "rows" := let ⟨h, X, G, c⟩ := Z.ex; He.noat_ok (c.fact (f := qNo "Line" "rows") 23 rfl)
theorem zq24 (Z : Zed K mg) : WrT K (He.dflAt ("Line", some "__init__") 0 K) [] := let ⟨h, X, G, c⟩ := Z.ex; qNilT_ok (c.fact (f := qNilT (He.dflAt ("Line", some "__init__") 0)) 24 rfl)
theorem zq25 (Z : Zed K mg) : Mk K (He.ga K "Line") (He.ma K (He.ga K "Line") "__init__") := let ⟨h, X, G, c⟩ := Z.ex; He.mkr_ok (c.fact (f := qMk "Line") 25 rfl)
theorem zq26 (Z : Zed K mg) : mg "Line" = some (.ref (He.ga K "Line")) := let ⟨h, X, G, c⟩ := Z.ex; He.glo_ok X G (c.fact (f := qGlo "Line") 26 rfl)
theorem zq27 (Z : Zed K mg) : mg "_law_by_start" = some (.ref (He.ga K "_law_by_start")) := let ⟨h, X, G, c⟩ := Z.ex; He.glo_ok X G (c.fact (f := qGlo "_law_by_start") 27 rfl)
theorem zq28 (Z : Zed K mg) : mg "_law_load" = some (.ref (He.ga K "_law_load")) := let ⟨h, X, G, c⟩ := Z.ex; He.glo_ok X G (c.fact (f := qGlo "_law_load") 28 rfl)
theorem zq29 (Z : Zed K mg) : mg "range" = none := let ⟨h, X, G, c⟩ := Z.ex; He.free_ok X G (c.fact (f := qFree "range") 29 rfl)
theorem zq30 (Z : Zed K mg) : mg "max" = none := let ⟨h, X, G, c⟩ := Z.ex; He.free_ok X G (c.fact (f := qFree "max") 30 rfl)
theorem zq31 (Z : Zed K mg) : mg "_law_meet" = some (.ref (He.ga K "_law_meet")) := let ⟨h, X, G, c⟩ := Z.ex; He.glo_ok X G (c.fact (f := qGlo "_law_meet") 31 rfl)
theorem zq32 (Z : Zed K mg) : mg "_law_product" = some (.ref (He.ga K "_law_product")) := let ⟨h, X, G, c⟩ := Z.ex; He.glo_ok X G (c.fact (f := qGlo "_law_product") 32 rfl)
theorem zq33 (Z : Zed K mg) : mg "repr" = none := let ⟨h, X, G, c⟩ := Z.ex; He.free_ok X G (c.fact (f := qFree "repr") 33 rfl)
theorem zq34 (Z : Zed K mg) : ClsT K (He.ga K "Line") := let ⟨h, X, G, c⟩ := Z.ex; qClsT_ok (c.fact (f := qClsT "Line") 34 rfl)
theorem zq35 (Z : Zed K mg) : mg "check_line" = some (.ref (He.ga K "check_line")) := let ⟨h, X, G, c⟩ := Z.ex; He.glo_ok X G (c.fact (f := qGlo "check_line") 35 rfl)
theorem zq36 (Z : Zed K mg) : Spc K (He.ga K "Line") "__len__" (He.ma K (He.ga K "Line") "__len__") := let ⟨h, X, G, c⟩ := Z.ex; qSpc_ok (c.fact (f := qSpc "Line" "__len__") 36 rfl)
theorem zq37 (Z : Zed K mg) : PropOf K (He.ga K "Line") "capacity" (He.ma K (He.ga K "Line") "capacity") (pGet "Line" "capacity" K) := let ⟨h, X, G, c⟩ := Z.ex; qProp_ok (c.fact (f := qProp "Line" "capacity") 37 rfl)
theorem zq38 (Z : Zed K mg) : mg "meet" = some (.ref (He.ga K "meet")) := let ⟨h, X, G, c⟩ := Z.ex; He.glo_ok X G (c.fact (f := qGlo "meet") 38 rfl)
theorem zq39 (Z : Zed K mg) : mg "earlier" = some (.ref (He.ga K "earlier")) := let ⟨h, X, G, c⟩ := Z.ex; He.glo_ok X G (c.fact (f := qGlo "earlier") 39 rfl)
theorem zq40 (Z : Zed K mg) : mg "sizes_of" = some (.ref (He.ga K "sizes_of")) := let ⟨h, X, G, c⟩ := Z.ex; He.glo_ok X G (c.fact (f := qGlo "sizes_of") 40 rfl)
theorem zq41 (Z : Zed K mg) : mg "count" = some (.ref (He.ga K "count")) := let ⟨h, X, G, c⟩ := Z.ex; He.glo_ok X G (c.fact (f := qGlo "count") 41 rfl)
theorem zq42 (Z : Zed K mg) : mg "passes" = some (.ref (He.ga K "passes")) := let ⟨h, X, G, c⟩ := Z.ex; He.glo_ok X G (c.fact (f := qGlo "passes") 42 rfl)
theorem zq43 (Z : Zed K mg) : mg "load_of" = some (.ref (He.ga K "load_of")) := let ⟨h, X, G, c⟩ := Z.ex; He.glo_ok X G (c.fact (f := qGlo "load_of") 43 rfl)
theorem zq44 (Z : Zed K mg) : Meth K (He.ga K "Line") "load" (He.ma K (He.ga K "Line") "load") := let ⟨h, X, G, c⟩ := Z.ex; He.meth_ok (c.fact (f := qMeth "Line" "load") 44 rfl)
theorem zq45 (Z : Zed K mg) : mg "overfull" = some (.ref (He.ga K "overfull")) := let ⟨h, X, G, c⟩ := Z.ex; He.glo_ok X G (c.fact (f := qGlo "overfull") 45 rfl)
theorem zq46 (Z : Zed K mg) : mg "_law_told" = some (.ref (He.ga K "_law_told")) := let ⟨h, X, G, c⟩ := Z.ex; He.glo_ok X G (c.fact (f := qGlo "_law_told") 46 rfl)
theorem zq47 (Z : Zed K mg) : mg "min" = none := let ⟨h, X, G, c⟩ := Z.ex; He.free_ok X G (c.fact (f := qFree "min") 47 rfl)
theorem zq48 (Z : Zed K mg) : mg "divmod" = none := let ⟨h, X, G, c⟩ := Z.ex; He.free_ok X G (c.fact (f := qFree "divmod") 48 rfl)
theorem zq49 (Z : Zed K mg) : mg "_law_draw" = some (.ref (He.ga K "_law_draw")) := let ⟨h, X, G, c⟩ := Z.ex; He.glo_ok X G (c.fact (f := qGlo "_law_draw") 49 rfl)
theorem zq50 (Z : Zed K mg) : mg "_law_far" = some (.ref (He.ga K "_law_far")) := let ⟨h, X, G, c⟩ := Z.ex; He.glo_ok X G (c.fact (f := qGlo "_law_far") 50 rfl)
theorem zq51 (Z : Zed K mg) : mg "_law_words" = some (.ref (He.ga K "_law_words")) := let ⟨h, X, G, c⟩ := Z.ex; He.glo_ok X G (c.fact (f := qGlo "_law_words") 51 rfl)
theorem zq52 (Z : Zed K mg) : mg "_law_rides" = some (.ref (He.ga K "_law_rides")) := let ⟨h, X, G, c⟩ := Z.ex; He.glo_ok X G (c.fact (f := qGlo "_law_rides") 52 rfl)
theorem zq53 (Z : Zed K mg) : mg "_law_peak" = some (.ref (He.ga K "_law_peak")) := let ⟨h, X, G, c⟩ := Z.ex; He.glo_ok X G (c.fact (f := qGlo "_law_peak") 53 rfl)
theorem zq54 (Z : Zed K mg) : mg "_law_long_case" = some (.ref (He.ga K "_law_long_case")) := let ⟨h, X, G, c⟩ := Z.ex; He.glo_ok X G (c.fact (f := qGlo "_law_long_case") 54 rfl)
theorem zq55 (Z : Zed K mg) : mg "abs" = none := let ⟨h, X, G, c⟩ := Z.ex; He.free_ok X G (c.fact (f := qFree "abs") 55 rfl)
theorem zq56 (Z : Zed K mg) : mg "_law_cell" = some (.ref (He.ga K "_law_cell")) := let ⟨h, X, G, c⟩ := Z.ex; He.glo_ok X G (c.fact (f := qGlo "_law_cell") 56 rfl)
theorem zq57 (Z : Zed K mg) : mg "_law_pool" = some (.ref (He.ga K "_law_pool")) := let ⟨h, X, G, c⟩ := Z.ex; He.glo_ok X G (c.fact (f := qGlo "_law_pool") 57 rfl)
theorem zq58 (Z : Zed K mg) : mg "_law_right" = some (.ref (He.ga K "_law_right")) := let ⟨h, X, G, c⟩ := Z.ex; He.glo_ok X G (c.fact (f := qGlo "_law_right") 58 rfl)
theorem zq59 (Z : Zed K mg) : mg "law" = some (.ref (He.ga K "law")) := let ⟨h, X, G, c⟩ := Z.ex; He.glo_ok X G (c.fact (f := qGlo "law") 59 rfl)
theorem zq60 (Z : Zed K mg) : InsT K (He.ga K "Line") := let ⟨h, X, G, c⟩ := Z.ex; qIns_ok (c.fact (f := qIns "Line") 60 rfl)
theorem zf_is_whole (Z : Zed K mg) : ∃ fd, FunD K dq_is_whole.name dq_is_whole.qual dq_is_whole.params dq_is_whole.body dq_is_whole.scope (dq_is_whole.dvs K) [] (dq_is_whole.loc K) fd := let ⟨h, X, G, c⟩ := Z.ex; c.def_ 0 rfl
theorem zf_is_between (Z : Zed K mg) : ∃ fd, FunD K dq_is_between.name dq_is_between.qual dq_is_between.params dq_is_between.body dq_is_between.scope (dq_is_between.dvs K) [] (dq_is_between.loc K) fd := let ⟨h, X, G, c⟩ := Z.ex; c.def_ 1 rfl
theorem zf_check_seats (Z : Zed K mg) : ∃ fd, FunD K dq_check_seats.name dq_check_seats.qual dq_check_seats.params dq_check_seats.body dq_check_seats.scope (dq_check_seats.dvs K) [] (dq_check_seats.loc K) fd := let ⟨h, X, G, c⟩ := Z.ex; c.def_ 2 rfl
theorem zf_is_name (Z : Zed K mg) : ∃ fd, FunD K dq_is_name.name dq_is_name.qual dq_is_name.params dq_is_name.body dq_is_name.scope (dq_is_name.dvs K) [] (dq_is_name.loc K) fd := let ⟨h, X, G, c⟩ := Z.ex; c.def_ 3 rfl
theorem zf_is_from (Z : Zed K mg) : ∃ fd, FunD K dq_is_from.name dq_is_from.qual dq_is_from.params dq_is_from.body dq_is_from.scope (dq_is_from.dvs K) [] (dq_is_from.loc K) fd := let ⟨h, X, G, c⟩ := Z.ex; c.def_ 4 rfl
theorem zf_is_trip (Z : Zed K mg) : ∃ fd, FunD K dq_is_trip.name dq_is_trip.qual dq_is_trip.params dq_is_trip.body dq_is_trip.scope (dq_is_trip.dvs K) [] (dq_is_trip.loc K) fd := let ⟨h, X, G, c⟩ := Z.ex; c.def_ 5 rfl
theorem zf_first_wrong (Z : Zed K mg) : ∃ fd, FunD K dq_first_wrong.name dq_first_wrong.qual dq_first_wrong.params dq_first_wrong.body dq_first_wrong.scope (dq_first_wrong.dvs K) [] (dq_first_wrong.loc K) fd := let ⟨h, X, G, c⟩ := Z.ex; c.def_ 6 rfl
theorem zf_by_start (Z : Zed K mg) : ∃ fd, FunD K dq_by_start.name dq_by_start.qual dq_by_start.params dq_by_start.body dq_by_start.scope (dq_by_start.dvs K) [] (dq_by_start.loc K) fd := let ⟨h, X, G, c⟩ := Z.ex; c.def_ 7 rfl
theorem zf_Line___init__ (Z : Zed K mg) : ∃ fd, FunD K dq_Line___init__.name dq_Line___init__.qual dq_Line___init__.params dq_Line___init__.body dq_Line___init__.scope (dq_Line___init__.dvs K) [] (dq_Line___init__.loc K) fd := let ⟨h, X, G, c⟩ := Z.ex; c.def_ 8 rfl
theorem zf__law_by_start (Z : Zed K mg) : ∃ fd, FunD K dq__law_by_start.name dq__law_by_start.qual dq__law_by_start.params dq__law_by_start.body dq__law_by_start.scope (dq__law_by_start.dvs K) [] (dq__law_by_start.loc K) fd := let ⟨h, X, G, c⟩ := Z.ex; c.def_ 9 rfl
theorem zf__law_load (Z : Zed K mg) : ∃ fd, FunD K dq__law_load.name dq__law_load.qual dq__law_load.params dq__law_load.body dq__law_load.scope (dq__law_load.dvs K) [] (dq__law_load.loc K) fd := let ⟨h, X, G, c⟩ := Z.ex; c.def_ 10 rfl
theorem zf__law_meet (Z : Zed K mg) : ∃ fd, FunD K dq__law_meet.name dq__law_meet.qual dq__law_meet.params dq__law_meet.body dq__law_meet.scope (dq__law_meet.dvs K) [] (dq__law_meet.loc K) fd := let ⟨h, X, G, c⟩ := Z.ex; c.def_ 11 rfl
theorem zf__law_product (Z : Zed K mg) : ∃ fd, FunD K dq__law_product.name dq__law_product.qual dq__law_product.params dq__law_product.body dq__law_product.scope (dq__law_product.dvs K) [] (dq__law_product.loc K) fd := let ⟨h, X, G, c⟩ := Z.ex; c.def_ 12 rfl
theorem zf_check_line (Z : Zed K mg) : ∃ fd, FunD K dq_check_line.name dq_check_line.qual dq_check_line.params dq_check_line.body dq_check_line.scope (dq_check_line.dvs K) [] (dq_check_line.loc K) fd := let ⟨h, X, G, c⟩ := Z.ex; c.def_ 13 rfl
theorem zf_Line___len__ (Z : Zed K mg) : ∃ fd, FunD K dq_Line___len__.name dq_Line___len__.qual dq_Line___len__.params dq_Line___len__.body dq_Line___len__.scope (dq_Line___len__.dvs K) [] (dq_Line___len__.loc K) fd := let ⟨h, X, G, c⟩ := Z.ex; c.def_ 14 rfl
theorem zf_Line_capacity (Z : Zed K mg) : ∃ fd, FunD K dq_Line_capacity.name dq_Line_capacity.qual dq_Line_capacity.params dq_Line_capacity.body dq_Line_capacity.scope (dq_Line_capacity.dvs K) [] (dq_Line_capacity.loc K) fd := let ⟨h, X, G, c⟩ := Z.ex; c.def_ 15 rfl
theorem zf_meet (Z : Zed K mg) : ∃ fd, FunD K dq_meet.name dq_meet.qual dq_meet.params dq_meet.body dq_meet.scope (dq_meet.dvs K) [] (dq_meet.loc K) fd := let ⟨h, X, G, c⟩ := Z.ex; c.def_ 16 rfl
theorem zf_earlier (Z : Zed K mg) : ∃ fd, FunD K dq_earlier.name dq_earlier.qual dq_earlier.params dq_earlier.body dq_earlier.scope (dq_earlier.dvs K) [] (dq_earlier.loc K) fd := let ⟨h, X, G, c⟩ := Z.ex; c.def_ 17 rfl
theorem zf_sizes_of (Z : Zed K mg) : ∃ fd, FunD K dq_sizes_of.name dq_sizes_of.qual dq_sizes_of.params dq_sizes_of.body dq_sizes_of.scope (dq_sizes_of.dvs K) [] (dq_sizes_of.loc K) fd := let ⟨h, X, G, c⟩ := Z.ex; c.def_ 18 rfl
theorem zf_count (Z : Zed K mg) : ∃ fd, FunD K dq_count.name dq_count.qual dq_count.params dq_count.body dq_count.scope (dq_count.dvs K) [] (dq_count.loc K) fd := let ⟨h, X, G, c⟩ := Z.ex; c.def_ 19 rfl
theorem zf_passes (Z : Zed K mg) : ∃ fd, FunD K dq_passes.name dq_passes.qual dq_passes.params dq_passes.body dq_passes.scope (dq_passes.dvs K) [] (dq_passes.loc K) fd := let ⟨h, X, G, c⟩ := Z.ex; c.def_ 20 rfl
theorem zf_load_of (Z : Zed K mg) : ∃ fd, FunD K dq_load_of.name dq_load_of.qual dq_load_of.params dq_load_of.body dq_load_of.scope (dq_load_of.dvs K) [] (dq_load_of.loc K) fd := let ⟨h, X, G, c⟩ := Z.ex; c.def_ 21 rfl
theorem zf_Line_load (Z : Zed K mg) : ∃ fd, FunD K dq_Line_load.name dq_Line_load.qual dq_Line_load.params dq_Line_load.body dq_Line_load.scope (dq_Line_load.dvs K) [] (dq_Line_load.loc K) fd := let ⟨h, X, G, c⟩ := Z.ex; c.def_ 22 rfl
theorem zf_overfull (Z : Zed K mg) : ∃ fd, FunD K dq_overfull.name dq_overfull.qual dq_overfull.params dq_overfull.body dq_overfull.scope (dq_overfull.dvs K) [] (dq_overfull.loc K) fd := let ⟨h, X, G, c⟩ := Z.ex; c.def_ 23 rfl
theorem zf__law_told (Z : Zed K mg) : ∃ fd, FunD K dq__law_told.name dq__law_told.qual dq__law_told.params dq__law_told.body dq__law_told.scope (dq__law_told.dvs K) [] (dq__law_told.loc K) fd := let ⟨h, X, G, c⟩ := Z.ex; c.def_ 24 rfl
theorem zf__law_draw (Z : Zed K mg) : ∃ fd, FunD K dq__law_draw.name dq__law_draw.qual dq__law_draw.params dq__law_draw.body dq__law_draw.scope (dq__law_draw.dvs K) [] (dq__law_draw.loc K) fd := let ⟨h, X, G, c⟩ := Z.ex; c.def_ 25 rfl
theorem zf__law_far (Z : Zed K mg) : ∃ fd, FunD K dq__law_far.name dq__law_far.qual dq__law_far.params dq__law_far.body dq__law_far.scope (dq__law_far.dvs K) [] (dq__law_far.loc K) fd := let ⟨h, X, G, c⟩ := Z.ex; c.def_ 26 rfl
theorem zf__law_rides (Z : Zed K mg) : ∃ fd, FunD K dq__law_rides.name dq__law_rides.qual dq__law_rides.params dq__law_rides.body dq__law_rides.scope (dq__law_rides.dvs K) [] (dq__law_rides.loc K) fd := let ⟨h, X, G, c⟩ := Z.ex; c.def_ 27 rfl
theorem zf__law_words (Z : Zed K mg) : ∃ fd, FunD K dq__law_words.name dq__law_words.qual dq__law_words.params dq__law_words.body dq__law_words.scope (dq__law_words.dvs K) [] (dq__law_words.loc K) fd := let ⟨h, X, G, c⟩ := Z.ex; c.def_ 28 rfl
theorem zf__law_peak (Z : Zed K mg) : ∃ fd, FunD K dq__law_peak.name dq__law_peak.qual dq__law_peak.params dq__law_peak.body dq__law_peak.scope (dq__law_peak.dvs K) [] (dq__law_peak.loc K) fd := let ⟨h, X, G, c⟩ := Z.ex; c.def_ 29 rfl
theorem zf__law_long_case (Z : Zed K mg) : ∃ fd, FunD K dq__law_long_case.name dq__law_long_case.qual dq__law_long_case.params dq__law_long_case.body dq__law_long_case.scope (dq__law_long_case.dvs K) [] (dq__law_long_case.loc K) fd := let ⟨h, X, G, c⟩ := Z.ex; c.def_ 30 rfl
theorem zf__law_right (Z : Zed K mg) : ∃ fd, FunD K dq__law_right.name dq__law_right.qual dq__law_right.params dq__law_right.body dq__law_right.scope (dq__law_right.dvs K) [] (dq__law_right.loc K) fd := let ⟨h, X, G, c⟩ := Z.ex; c.def_ 31 rfl
theorem zf__law_pool (Z : Zed K mg) : ∃ fd, FunD K dq__law_pool.name dq__law_pool.qual dq__law_pool.params dq__law_pool.body dq__law_pool.scope (dq__law_pool.dvs K) [] (dq__law_pool.loc K) fd := let ⟨h, X, G, c⟩ := Z.ex; c.def_ 32 rfl
theorem zf__law_cell (Z : Zed K mg) : ∃ fd, FunD K dq__law_cell.name dq__law_cell.qual dq__law_cell.params dq__law_cell.body dq__law_cell.scope (dq__law_cell.dvs K) [] (dq__law_cell.loc K) fd := let ⟨h, X, G, c⟩ := Z.ex; c.def_ 33 rfl
theorem zf_law (Z : Zed K mg) : ∃ fd, FunD K dq_law.name dq_law.qual dq_law.params dq_law.body dq_law.scope (dq_law.dvs K) [] (dq_law.loc K) fd := let ⟨h, X, G, c⟩ := Z.ex; c.def_ 34 rfl
end
theorem sc_is_whole : FnScope N_is_whole ["thing"] dq_is_whole.scope := ⟨rfl, rfl, rfl, by decide +kernel, rfl, by decide +kernel, by decide +kernel⟩
theorem sc_is_between : FnScope N_is_between ["thing", "least", "most"] dq_is_between.scope := ⟨rfl, rfl, rfl, by decide +kernel, rfl, by decide +kernel, by decide +kernel⟩
theorem sc_check_seats : FnScope N_check_seats ["thing"] dq_check_seats.scope := ⟨rfl, rfl, rfl, by decide +kernel, rfl, by decide +kernel, by decide +kernel⟩
theorem sc_is_name : FnScope N_is_name ["thing"] dq_is_name.scope := ⟨rfl, rfl, rfl, by decide +kernel, rfl, by decide +kernel, by decide +kernel⟩
theorem sc_is_from : FnScope N_is_from ["thing", "least"] dq_is_from.scope := ⟨rfl, rfl, rfl, by decide +kernel, rfl, by decide +kernel, by decide +kernel⟩
theorem sc_is_trip : FnScope N_is_trip ["thing"] dq_is_trip.scope := ⟨rfl, rfl, rfl, by decide +kernel, rfl, by decide +kernel, by decide +kernel⟩
theorem sc_first_wrong : FnScope N_first_wrong ["thing"] dq_first_wrong.scope := ⟨rfl, rfl, rfl, by decide +kernel, rfl, by decide +kernel, by decide +kernel⟩
theorem sc_by_start : FnScope N_by_start ["trips"] dq_by_start.scope := ⟨rfl, rfl, rfl, by decide +kernel, rfl, by decide +kernel, by decide +kernel⟩
theorem sc_Line___init__ : FnScope N_Line___init__ ["self", "seats", "trips"] dq_Line___init__.scope := ⟨rfl, rfl, rfl, by decide +kernel, rfl, by decide +kernel, by decide +kernel⟩
theorem sc__law_by_start : FnScope N__law_by_start ["rides"] dq__law_by_start.scope := ⟨rfl, rfl, rfl, by decide +kernel, rfl, by decide +kernel, by decide +kernel⟩
theorem sc__law_load : FnScope N__law_load ["rides", "place"] dq__law_load.scope := ⟨rfl, rfl, rfl, by decide +kernel, rfl, by decide +kernel, by decide +kernel⟩
theorem sc__law_meet : FnScope N__law_meet ["one_ride", "more_ride"] dq__law_meet.scope := ⟨rfl, rfl, rfl, by decide +kernel, rfl, by decide +kernel, by decide +kernel⟩
theorem sc__law_product : FnScope N__law_product ["width", "rides"] dq__law_product.scope := ⟨rfl, rfl, rfl, by decide +kernel, rfl, by decide +kernel, by decide +kernel⟩
theorem sc_check_line : FnScope N_check_line ["thing"] dq_check_line.scope := ⟨rfl, rfl, rfl, by decide +kernel, rfl, by decide +kernel, by decide +kernel⟩
theorem sc_Line___len__ : FnScope N_Line___len__ ["self"] dq_Line___len__.scope := ⟨rfl, rfl, rfl, by decide +kernel, rfl, by decide +kernel, by decide +kernel⟩
theorem sc_Line_capacity : FnScope N_Line_capacity ["self"] dq_Line_capacity.scope := ⟨rfl, rfl, rfl, by decide +kernel, rfl, by decide +kernel, by decide +kernel⟩
theorem sc_meet : FnScope N_meet ["one", "other"] dq_meet.scope := ⟨rfl, rfl, rfl, by decide +kernel, rfl, by decide +kernel, by decide +kernel⟩
theorem sc_earlier : FnScope N_earlier ["line", "index"] dq_earlier.scope := ⟨rfl, rfl, rfl, by decide +kernel, rfl, by decide +kernel, by decide +kernel⟩
theorem sc_sizes_of : FnScope N_sizes_of ["line"] dq_sizes_of.scope := ⟨rfl, rfl, rfl, by decide +kernel, rfl, by decide +kernel, by decide +kernel⟩
theorem sc_count : FnScope N_count ["line"] dq_count.scope := ⟨rfl, rfl, rfl, by decide +kernel, rfl, by decide +kernel, by decide +kernel⟩
theorem sc_passes : FnScope N_passes ["trip", "station"] dq_passes.scope := ⟨rfl, rfl, rfl, by decide +kernel, rfl, by decide +kernel, by decide +kernel⟩
theorem sc_load_of : FnScope N_load_of ["trips", "station"] dq_load_of.scope := ⟨rfl, rfl, rfl, by decide +kernel, rfl, by decide +kernel, by decide +kernel⟩
theorem sc_Line_load : FnScope N_Line_load ["self", "station"] dq_Line_load.scope := ⟨rfl, rfl, rfl, by decide +kernel, rfl, by decide +kernel, by decide +kernel⟩
theorem sc_overfull : FnScope N_overfull ["line"] dq_overfull.scope := ⟨rfl, rfl, rfl, by decide +kernel, rfl, by decide +kernel, by decide +kernel⟩
theorem sc__law_told : FnScope N__law_told ["width", "rides"] dq__law_told.scope := ⟨rfl, rfl, rfl, by decide +kernel, rfl, by decide +kernel, by decide +kernel⟩
theorem sc__law_draw : FnScope N__law_draw ["pool", "many"] dq__law_draw.scope := ⟨rfl, rfl, rfl, by decide +kernel, rfl, by decide +kernel, by decide +kernel⟩
theorem sc__law_far : FnScope N__law_far ["pool", "high"] dq__law_far.scope := ⟨rfl, rfl, rfl, by decide +kernel, rfl, by decide +kernel, by decide +kernel⟩
theorem sc__law_rides : FnScope N__law_rides ["pool", "words", "high"] dq__law_rides.scope := ⟨rfl, rfl, rfl, by decide +kernel, rfl, by decide +kernel, by decide +kernel⟩
theorem sc__law_words : FnScope N__law_words ["pool", "many"] dq__law_words.scope := ⟨rfl, rfl, rfl, by decide +kernel, rfl, by decide +kernel, by decide +kernel⟩
theorem sc__law_peak : FnScope N__law_peak ["rides"] dq__law_peak.scope := ⟨rfl, rfl, rfl, by decide +kernel, rfl, by decide +kernel, by decide +kernel⟩
theorem sc__law_long_case : FnScope N__law_long_case ["pool"] dq__law_long_case.scope := ⟨rfl, rfl, rfl, by decide +kernel, rfl, by decide +kernel, by decide +kernel⟩
theorem sc__law_right : FnScope N__law_right ["pool"] dq__law_right.scope := ⟨rfl, rfl, rfl, by decide +kernel, rfl, by decide +kernel, by decide +kernel⟩
theorem sc__law_pool : FnScope N__law_pool ["cell"] dq__law_pool.scope := ⟨rfl, rfl, rfl, by decide +kernel, rfl, by decide +kernel, by decide +kernel⟩
theorem sc__law_cell : FnScope N__law_cell ["script", "k"] dq__law_cell.scope := ⟨rfl, rfl, rfl, by decide +kernel, rfl, by decide +kernel, by decide +kernel⟩
theorem sc_law : FnScope N_law ["script"] dq_law.scope := ⟨rfl, rfl, rfl, by decide +kernel, rfl, by decide +kernel, by decide +kernel⟩
/-! ### the walks -/
section
variable {P : Program} {w : World} {K : PySem.W.Frag} {mg : Str → Option Value} {base : Heap}
theorem w_is_whole (Z : Zed K mg) (cdv : Value) (A : Around) (outer : List Env) (s : Shared) (H : Hp) (E : XK) (hr : Rm 0 (A.deeper (envOfC dq_is_whole.qual dq_is_whole.scope s.heap.objs.size (dq_is_whole.loc K) cdv))) :
    DSs (cxOf (L2.CX P w) P w K mg base N_is_whole dq_is_whole.qual dq_is_whole.scope (dq_is_whole.loc K) cdv A outer s H E) (fun c d _ H => E c d H) dq_is_whole.body (r_is_whole K) := by
  have tk : Takes (cxOf (L2.CX P w) P w K mg base N_is_whole dq_is_whole.qual dq_is_whole.scope (dq_is_whole.loc K) cdv A outer s H E) (fun c d _ H => E c d H) := takes_of rfl rfl rfl rfl
  exact (dss_one (ds_ret (de_and (d_callB (call_isiB (T := "int") (by decide)) rfl (zq3 Z) (by decide +kernel) (da_cons (d_var (pv 0)) (da_cons (d_bty rfl (zq5 Z) (by decide +kernel)) da_nil))) (de_one (d_not (d_callB (call_isiB (T := "bool") (by decide)) rfl (zq3 Z) (by decide +kernel) (da_cons (d_var (pv 0)) (da_cons (d_bty rfl (zq4 Z) (by decide +kernel)) da_nil))))))))
theorem w_is_between (Z : Zed K mg) (p_is_whole : Pm P w K mg base 1 dq_is_whole ["thing"] (sp_is_whole K)) (cdv : Value) (A : Around) (outer : List Env) (s : Shared) (H : Hp) (E : XK) (hr : Rm 1 (A.deeper (envOfC dq_is_between.qual dq_is_between.scope s.heap.objs.size (dq_is_between.loc K) cdv))) :
    DSs (cxOf (L2.CX P w) P w K mg base N_is_between dq_is_between.qual dq_is_between.scope (dq_is_between.loc K) cdv A outer s H E) (fun c d _ H => E c d H) dq_is_between.body (r_is_between K) := by
  have tk : Takes (cxOf (L2.CX P w) P w K mg base N_is_between dq_is_between.qual dq_is_between.scope (dq_is_between.loc K) cdv A outer s H E) (fun c d _ H => E c d H) := takes_of rfl rfl rfl rfl
  obtain ⟨fd_is_whole, F_is_whole, G_is_whole⟩ := p_is_whole.ex
  exact (dss_one (ds_ret (de_and (d_call (G_is_whole.mono (by decide)) hr tk rfl (zq6 Z) F_is_whole.kp (BindD.pos F_is_whole 1 fun _ _ _ _ _ _ us hl => match us, hl with | [a0], _ => by kernel_rfl) (af (da_cons (d_var (pv 0)) da_nil))) (de_one (chain_run op_leD op_leD (d_var (pv 1)) (d_var (pv 0)) (d_var (pv 2)))))))
theorem w_check_seats (Z : Zed K mg) (p_is_between : Pm P w K mg base 2 dq_is_between ["thing", "least", "most"] (sp_is_between K)) (cdv : Value) (A : Around) (outer : List Env) (s : Shared) (H : Hp) (E : XK) (hr : Rm 2 (A.deeper (envOfC dq_check_seats.qual dq_check_seats.scope s.heap.objs.size (dq_check_seats.loc K) cdv))) :
    DSs (cxOf (L2.CX P w) P w K mg base N_check_seats dq_check_seats.qual dq_check_seats.scope (dq_check_seats.loc K) cdv A outer s H E) (fun c d _ H => E c d H) dq_check_seats.body (r_check_seats K) := by
  have tk : Takes (cxOf (L2.CX P w) P w K mg base N_check_seats dq_check_seats.qual dq_check_seats.scope (dq_check_seats.loc K) cdv A outer s H E) (fun c d _ H => E c d H) := takes_of rfl rfl rfl rfl
  obtain ⟨fd_is_between, F_is_between, G_is_between⟩ := p_is_between.ex
  exact (dss_one (ds_if (dt_not (dt_val (d_call (G_is_between.mono (by decide)) hr tk rfl (zq8 Z) F_is_between.kp (BindD.pos F_is_between 3 fun _ _ _ _ _ _ us hl => match us, hl with | [a0, a1, a2], _ => by kernel_rfl) (af (da_cons (d_var (pv 0)) (da_cons d_int (da_cons (d_gint rfl (zq7 Z)) da_nil))))))) (dss_one ds_never) dss_nil))
theorem w_is_name (Z : Zed K mg) (cdv : Value) (A : Around) (outer : List Env) (s : Shared) (H : Hp) (E : XK) (hr : Rm 0 (A.deeper (envOfC dq_is_name.qual dq_is_name.scope s.heap.objs.size (dq_is_name.loc K) cdv))) :
    DSs (cxOf (L2.CX P w) P w K mg base N_is_name dq_is_name.qual dq_is_name.scope (dq_is_name.loc K) cdv A outer s H E) (fun c d _ H => E c d H) dq_is_name.body (r_is_name K) := by
  have tk : Takes (cxOf (L2.CX P w) P w K mg base N_is_name dq_is_name.qual dq_is_name.scope (dq_is_name.loc K) cdv A outer s H E) (fun c d _ H => E c d H) := takes_of rfl rfl rfl rfl
  exact (dss_one (ds_ret (de_and (d_callB (call_isiB (T := "str") (by decide)) rfl (zq3 Z) (by decide +kernel) (da_cons (d_var (pv 0)) (da_cons (d_bty rfl (zq12 Z) (by decide +kernel)) da_nil))) (de_and (chain_run op_ltD op_ltD d_int (d_callB call_lenDD rfl (zq11 Z) (by decide +kernel) (da_cons (d_var (pv 0)) da_nil)) d_int) (de_one (d_callB (call_allD rfl) rfl (zq2 Z) (by decide +kernel) (da_cons (d_lc (own := [("letter", 1)]) (ix := [1]) rfl sc_is_name.nd (di_val (d_var (pv 0))) (blk_of N_is_name dq_is_name.scope rfl rfl (by decide +kernel)) (by decide) (fun s H C cl fp => (dg_name [1] sc_is_name.nd)) (fun s H C cl fp => dts_nil) (fun s H C cl fp => (d_cmp (op_inDD (Rm.u65 hr)) (d_var (pv 1)) (d_gstr rfl (zq10 Z))))) da_nil)))))))
theorem w_is_from (Z : Zed K mg) (p_is_whole : Pm P w K mg base 1 dq_is_whole ["thing"] (sp_is_whole K)) (cdv : Value) (A : Around) (outer : List Env) (s : Shared) (H : Hp) (E : XK) (hr : Rm 1 (A.deeper (envOfC dq_is_from.qual dq_is_from.scope s.heap.objs.size (dq_is_from.loc K) cdv))) :
    DSs (cxOf (L2.CX P w) P w K mg base N_is_from dq_is_from.qual dq_is_from.scope (dq_is_from.loc K) cdv A outer s H E) (fun c d _ H => E c d H) dq_is_from.body (r_is_from K) := by
  have tk : Takes (cxOf (L2.CX P w) P w K mg base N_is_from dq_is_from.qual dq_is_from.scope (dq_is_from.loc K) cdv A outer s H E) (fun c d _ H => E c d H) := takes_of rfl rfl rfl rfl
  obtain ⟨fd_is_whole, F_is_whole, G_is_whole⟩ := p_is_whole.ex
  exact (dss_one (ds_ret (de_and (d_call (G_is_whole.mono (by decide)) hr tk rfl (zq6 Z) F_is_whole.kp (BindD.pos F_is_whole 1 fun _ _ _ _ _ _ us hl => match us, hl with | [a0], _ => by kernel_rfl) (af (da_cons (d_var (pv 0)) da_nil))) (de_one (d_cmp op_geD (d_var (pv 0)) (d_var (pv 1)))))))
theorem w_is_trip (Z : Zed K mg) (p_is_name : Pm P w K mg base 1 dq_is_name ["thing"] (sp_is_name K)) (p_is_whole : Pm P w K mg base 1 dq_is_whole ["thing"] (sp_is_whole K)) (p_is_from : Pm P w K mg base 2 dq_is_from ["thing", "least"] (sp_is_from K)) (cdv : Value) (A : Around) (outer : List Env) (s : Shared) (H : Hp) (E : XK) (hr : Rm 2 (A.deeper (envOfC dq_is_trip.qual dq_is_trip.scope s.heap.objs.size (dq_is_trip.loc K) cdv))) :
    DSs (cxOf (L2.CX P w) P w K mg base N_is_trip dq_is_trip.qual dq_is_trip.scope (dq_is_trip.loc K) cdv A outer s H E) (fun c d _ H => E c d H) dq_is_trip.body (r_is_trip K) := by
  have tk : Takes (cxOf (L2.CX P w) P w K mg base N_is_trip dq_is_trip.qual dq_is_trip.scope (dq_is_trip.loc K) cdv A outer s H E) (fun c d _ H => E c d H) := takes_of rfl rfl rfl rfl
  obtain ⟨fd_is_name, F_is_name, G_is_name⟩ := p_is_name.ex
  obtain ⟨fd_is_whole, F_is_whole, G_is_whole⟩ := p_is_whole.ex
  obtain ⟨fd_is_from, F_is_from, G_is_from⟩ := p_is_from.ex
  exact (dss_cons (ds_if (dt_w (dw_or (dt_not (dt_val (d_callB (call_isiB (T := "tuple") (by decide)) rfl (zq3 Z) (by decide +kernel) (da_cons (d_var (pv 0)) (da_cons (d_bty rfl (zq0 Z) (by decide +kernel)) da_nil))))) (dw_or (dt_cmp (op_neDD (Room.hu hr)) (d_callB call_lenDD rfl (zq11 Z) (by decide +kernel) (da_cons (d_var (pv 0)) da_nil)) d_int) (dw_or1 (dt_not (dt_val (d_call (G_is_name.mono (by decide)) hr tk rfl (zq13 Z) F_is_name.kp (BindD.pos F_is_name 1 fun _ _ _ _ _ _ us hl => match us, hl with | [a0], _ => by kernel_rfl) (af (da_cons (d_ix (d_var (pv 0)) d_int) da_nil))))))))) (dss_one (ds_ret d_bl)) dss_nil)
      (dss_one (ds_ret (de_and (d_call (G_is_from.mono (by decide)) hr tk rfl (zq14 Z) F_is_from.kp (BindD.pos F_is_from 2 fun _ _ _ _ _ _ us hl => match us, hl with | [a0, a1], _ => by kernel_rfl) (af (da_cons (d_ix (d_var (pv 0)) d_int) (da_cons d_int da_nil)))) (de_and (d_call (G_is_whole.mono (by decide)) hr tk rfl (zq6 Z) F_is_whole.kp (BindD.pos F_is_whole 1 fun _ _ _ _ _ _ us hl => match us, hl with | [a0], _ => by kernel_rfl) (af (da_cons (d_ix (d_var (pv 0)) d_int) da_nil))) (de_one (d_cmp op_gtD (d_ix (d_var (pv 0)) d_int) (d_ix (d_var (pv 0)) d_int))))))))
theorem w_first_wrong (Z : Zed K mg) (p_is_trip : Pm P w K mg base 3 dq_is_trip ["thing"] (sp_is_trip K)) (cdv : Value) (A : Around) (outer : List Env) (s : Shared) (H : Hp) (E : XK) (hr : Rm 3 (A.deeper (envOfC dq_first_wrong.qual dq_first_wrong.scope s.heap.objs.size (dq_first_wrong.loc K) cdv))) :
    DSs (cxOf (L2.CX P w) P w K mg base N_first_wrong dq_first_wrong.qual dq_first_wrong.scope (dq_first_wrong.loc K) cdv A outer s H E) (fun c d _ H => E c d H) dq_first_wrong.body (r_first_wrong K) := by
  have tk : Takes (cxOf (L2.CX P w) P w K mg base N_first_wrong dq_first_wrong.qual dq_first_wrong.scope (dq_first_wrong.loc K) cdv A outer s H E) (fun c d _ H => E c d H) := takes_of rfl rfl rfl rfl
  obtain ⟨fd_is_trip, F_is_trip, G_is_trip⟩ := p_is_trip.ex
  exact (dss_cons (ds_for (passes_of rfl) rfl (di_en rfl (zq1 Z) (da_cons (d_var (pv 0)) da_nil)) (dg_tup rfl (dgs_cons (dg_name [1, 2] sc_first_wrong.nd) (dgs_cons (dg_name [1, 2] sc_first_wrong.nd) dgs_nil))) (dss_one (ds_if (dt_w (dw_or (dt_cmp op_geD (d_var (pv 1)) (d_gint rfl (zq16 Z))) (dw_or (dt_not (dt_val (d_call (G_is_trip.mono (by decide)) hr tk rfl (zq15 Z) F_is_trip.kp (BindD.pos F_is_trip 1 fun _ _ _ _ _ _ us hl => match us, hl with | [a0], _ => by kernel_rfl) (af (da_cons (d_var (pv 2)) da_nil))))) (dw_or1 (dt_w (dw_and (dt_cmp op_gtD (d_var (pv 1)) d_int) (dw_and1 (dt_cmp op_leD (d_ix (d_var (pv 2)) d_int) (d_ix (d_ix (d_var (pv 0)) (d_op op_subD (d_var (pv 1)) d_int)) d_int))))))))) (dss_one (ds_ret (d_var (pv 1)))) dss_nil)))
      (dss_one (ds_ret d_non)))
theorem w_by_start (Z : Zed K mg) (cdv : Value) (A : Around) (outer : List Env) (s : Shared) (H : Hp) (E : XK) (hr : Rm 0 (A.deeper (envOfC dq_by_start.qual dq_by_start.scope s.heap.objs.size (dq_by_start.loc K) cdv))) :
    DSs (cxOf (L2.CX P w) P w K mg base N_by_start dq_by_start.qual dq_by_start.scope (dq_by_start.loc K) cdv A outer s H E) (fun c d _ H => E c d H) dq_by_start.body (r_by_start K) := by
  have tk : Takes (cxOf (L2.CX P w) P w K mg base N_by_start dq_by_start.qual dq_by_start.scope (dq_by_start.loc K) cdv A outer s H E) (fun c d _ H => E c d H) := takes_of rfl rfl rfl rfl
  exact (dss_one (ds_ret (d_lc (own := [("row", 1)]) (ix := [1]) rfl sc_by_start.nd (di_val (d_callB call_sortD rfl (zq21 Z) (by decide +kernel) (da_cons (d_lc (own := [("trip", 2)]) (ix := [2]) rfl sc_by_start.nd (di_val (d_var (pv 0))) (blk_of N_by_start dq_by_start.scope rfl rfl (by decide +kernel)) (by decide) (fun s H C cl fp => (dg_name [2] sc_by_start.nd)) (fun s H C cl fp => dts_nil) (fun s H C cl fp => (d_tup (da_cons (d_ix (d_var (pv 2)) d_int) (da_cons (d_ix (d_var (pv 2)) d_int) (da_cons (d_var (pv 2)) da_nil)))))) da_nil))) (blk_of N_by_start dq_by_start.scope rfl rfl (by decide +kernel)) (by decide) (fun s H C cl fp => (dg_name [1] sc_by_start.nd)) (fun s H C cl fp => dts_nil) (fun s H C cl fp => (d_ix (d_var (pv 1)) d_int)))))
theorem w_Line___init__ (Z : Zed K mg) (p_check_seats : Pm P w K mg base 3 dq_check_seats ["thing"] (sp_check_seats K)) (p_first_wrong : Pm P w K mg base 4 dq_first_wrong ["thing"] (sp_first_wrong K)) (p_by_start : Pm P w K mg base 1 dq_by_start ["trips"] (sp_by_start K)) (cdv : Value) (A : Around) (outer : List Env) (s : Shared) (H : Hp) (E : XK) (hr : Rm 4 (A.deeper (envOfC dq_Line___init__.qual dq_Line___init__.scope s.heap.objs.size (dq_Line___init__.loc K) cdv))) :
    DSs (cxOf (L2.CX P w) P w K mg base N_Line___init__ dq_Line___init__.qual dq_Line___init__.scope (dq_Line___init__.loc K) cdv A outer s H E) (fun c d _ H => E c d H) dq_Line___init__.body (r_Line___init__ K) := by
  have tk : Takes (cxOf (L2.CX P w) P w K mg base N_Line___init__ dq_Line___init__.qual dq_Line___init__.scope (dq_Line___init__.loc K) cdv A outer s H E) (fun c d _ H => E c d H) := takes_of rfl rfl rfl rfl
  obtain ⟨fd_check_seats, F_check_seats, G_check_seats⟩ := p_check_seats.ex
  obtain ⟨fd_first_wrong, F_first_wrong, G_first_wrong⟩ := p_first_wrong.ex
  obtain ⟨fd_by_start, F_by_start, G_by_start⟩ := p_by_start.ex
  exact (dss_cons (ds_expr (d_call (G_check_seats.mono (by decide)) hr tk rfl (zq9 Z) F_check_seats.kp (BindD.pos F_check_seats 1 fun _ _ _ _ _ _ us hl => match us, hl with | [a0], _ => by kernel_rfl) (af (da_cons (d_var (pv 1)) da_nil))))
      (dss_cons (ds_if (dt_not (dt_val (d_callB (call_isiB (T := "tuple") (by decide)) rfl (zq3 Z) (by decide +kernel) (da_cons (d_var (pv 2)) (da_cons (d_bty rfl (zq0 Z) (by decide +kernel)) da_nil))))) (dss_one ds_never) dss_nil)
      (dss_cons (ds_set (i := 3) sc_Line___init__.nd (d_call (G_first_wrong.mono (by decide)) hr tk rfl (zq17 Z) F_first_wrong.kp (BindD.pos F_first_wrong 1 fun _ _ _ _ _ _ us hl => match us, hl with | [a0], _ => by kernel_rfl) (af (da_cons (d_var (pv 2)) da_nil))))
      (dss_cons (ds_if (dt_cmp op_isnD (d_var (pv 3)) d_non) (dss_one ds_never) dss_nil)
      (dss_cons (ds_fld (zq18 Z) (zq19 Z) (d_var (pv 1)) (d_var (pv 0)))
      (dss_cons (ds_fld (zq18 Z) (zq20 Z) (d_var (pv 2)) (d_var (pv 0)))
      (dss_one (ds_fld (zq18 Z) (zq23 Z) (d_call (G_by_start.mono (by decide)) hr tk rfl (zq22 Z) F_by_start.kp (BindD.pos F_by_start 1 fun _ _ _ _ _ _ us hl => match us, hl with | [a0], _ => by kernel_rfl) (af (da_cons (d_var (pv 2)) da_nil))) (d_var (pv 0))))))))))
theorem w__law_by_start (Z : Zed K mg) (cdv : Value) (A : Around) (outer : List Env) (s : Shared) (H : Hp) (E : XK) (hr : Rm 0 (A.deeper (envOfC dq__law_by_start.qual dq__law_by_start.scope s.heap.objs.size (dq__law_by_start.loc K) cdv))) :
    DSs (cxOf (L2.CX P w) P w K mg base N__law_by_start dq__law_by_start.qual dq__law_by_start.scope (dq__law_by_start.loc K) cdv A outer s H E) (fun c d _ H => E c d H) dq__law_by_start.body (r__law_by_start K) := by
  have tk : Takes (cxOf (L2.CX P w) P w K mg base N__law_by_start dq__law_by_start.qual dq__law_by_start.scope (dq__law_by_start.loc K) cdv A outer s H E) (fun c d _ H => E c d H) := takes_of rfl rfl rfl rfl
  exact (dss_cons (ds_set (i := 1) sc__law_by_start.nd (d_callB call_sortD rfl (zq21 Z) (by decide +kernel) (da_cons (d_lc (own := [("ride", 2)]) (ix := [2]) rfl sc__law_by_start.nd (di_val (d_var (pv 0))) (blk_of N__law_by_start dq__law_by_start.scope rfl rfl (by decide +kernel)) (by decide) (fun s H C cl fp => (dg_name [2] sc__law_by_start.nd)) (fun s H C cl fp => dts_nil) (fun s H C cl fp => (d_tup (da_cons (d_ix (d_var (pv 2)) d_int) (da_cons (d_ix (d_var (pv 2)) d_int) (da_cons (d_var (pv 2)) da_nil)))))) da_nil)))
      (dss_one (ds_ret (d_lc (own := [("row", 3)]) (ix := [3]) rfl sc__law_by_start.nd (di_val (d_var (pv 1))) (blk_of N__law_by_start dq__law_by_start.scope rfl rfl (by decide +kernel)) (by decide) (fun s H C cl fp => (dg_name [3] sc__law_by_start.nd)) (fun s H C cl fp => dts_nil) (fun s H C cl fp => (d_ix (d_var (pv 3)) d_int))))))
theorem w__law_load (Z : Zed K mg) (cdv : Value) (A : Around) (outer : List Env) (s : Shared) (H : Hp) (E : XK) (hr : Rm 0 (A.deeper (envOfC dq__law_load.qual dq__law_load.scope s.heap.objs.size (dq__law_load.loc K) cdv))) :
    DSs (cxOf (L2.CX P w) P w K mg base N__law_load dq__law_load.qual dq__law_load.scope (dq__law_load.loc K) cdv A outer s H E) (fun c d _ H => E c d H) dq__law_load.body (r__law_load K) := by
  have tk : Takes (cxOf (L2.CX P w) P w K mg base N__law_load dq__law_load.qual dq__law_load.scope (dq__law_load.loc K) cdv A outer s H E) (fun c d _ H => E c d H) := takes_of rfl rfl rfl rfl
  exact (dss_one (ds_ret (d_callB call_lenDD rfl (zq11 Z) (by decide +kernel) (da_cons (d_lc (own := [("ride", 2)]) (ix := [2]) rfl sc__law_load.nd (di_val (d_var (pv 0))) (blk_of N__law_load dq__law_load.scope rfl rfl (by decide +kernel)) (by decide) (fun s H C cl fp => (dg_name [2] sc__law_load.nd)) (fun s H C cl fp => (dts_one (dt_chain op_leD op_ltD (d_ix (d_var (pv 2)) d_int) (d_var (pv 1)) (d_ix (d_var (pv 2)) d_int)))) (fun s H C cl fp => (d_var (pv 2)))) da_nil))))
theorem w__law_meet (Z : Zed K mg) (cdv : Value) (A : Around) (outer : List Env) (s : Shared) (H : Hp) (E : XK) (hr : Rm 0 (A.deeper (envOfC dq__law_meet.qual dq__law_meet.scope s.heap.objs.size (dq__law_meet.loc K) cdv))) :
    DSs (cxOf (L2.CX P w) P w K mg base N__law_meet dq__law_meet.qual dq__law_meet.scope (dq__law_meet.loc K) cdv A outer s H E) (fun c d _ H => E c d H) dq__law_meet.body (r__law_meet K) := by
  have tk : Takes (cxOf (L2.CX P w) P w K mg base N__law_meet dq__law_meet.qual dq__law_meet.scope (dq__law_meet.loc K) cdv A outer s H E) (fun c d _ H => E c d H) := takes_of rfl rfl rfl rfl
  exact (dss_one (ds_ret (de_and (d_cmp op_ltD (d_ix (d_var (pv 0)) d_int) (d_ix (d_var (pv 1)) d_int)) (de_one (d_cmp op_ltD (d_ix (d_var (pv 1)) d_int) (d_ix (d_var (pv 0)) d_int))))))
theorem w__law_product (Z : Zed K mg) (p__law_by_start : Pm P w K mg base 1 dq__law_by_start ["rides"] (sp__law_by_start K)) (p__law_meet : Pm P w K mg base 1 dq__law_meet ["one_ride", "more_ride"] (sp__law_meet K)) (cdv : Value) (A : Around) (outer : List Env) (s : Shared) (H : Hp) (E : XK) (hr : Rm 1 (A.deeper (envOfC dq__law_product.qual dq__law_product.scope s.heap.objs.size (dq__law_product.loc K) cdv))) :
    DSs (cxOf (L2.CX P w) P w K mg base N__law_product dq__law_product.qual dq__law_product.scope (dq__law_product.loc K) cdv A outer s H E) (fun c d _ H => E c d H) dq__law_product.body (r__law_product K) := by
  have tk : Takes (cxOf (L2.CX P w) P w K mg base N__law_product dq__law_product.qual dq__law_product.scope (dq__law_product.loc K) cdv A outer s H E) (fun c d _ H => E c d H) := takes_of rfl rfl rfl rfl
  obtain ⟨fd__law_by_start, F__law_by_start, G__law_by_start⟩ := p__law_by_start.ex
  obtain ⟨fd__law_meet, F__law_meet, G__law_meet⟩ := p__law_meet.ex
  exact (dss_cons (ds_asg (ix := [2, 3]) (d_tup (da_cons (d_call (G__law_by_start.mono (by decide)) hr tk rfl (zq27 Z) F__law_by_start.kp (BindD.pos F__law_by_start 1 fun _ _ _ _ _ _ us hl => match us, hl with | [a0], _ => by kernel_rfl) (af (da_cons (d_var (pv 1)) da_nil))) (da_cons d_int da_nil))) (dg_tup rfl (dgs_cons (dg_name [2, 3] sc__law_product.nd) (dgs_cons (dg_name [2, 3] sc__law_product.nd) dgs_nil))))
      (dss_cons (ds_for (passes_of rfl) rfl (di_rg1 rfl (zq29 Z) (da_cons (d_callB call_lenDD rfl (zq11 Z) (by decide +kernel) (da_cons (d_var (pv 2)) da_nil)) da_nil)) (dg_name [4] sc__law_product.nd) (dss_one (ds_set (i := 3) sc__law_product.nd (d_op op_mulD (d_var (pv 3)) (d_callB (call_max2D rfl) rfl (zq30 Z) (by decide +kernel) (da_cons d_int (da_cons (d_op op_subD (d_var (pv 0)) (d_callB call_lenDD rfl (zq11 Z) (by decide +kernel) (da_cons (d_lc (own := [("each", 5)]) (ix := [5]) rfl sc__law_product.nd (di_val (d_sl (d_var (pv 2)) do_none (do_some (d_var (pv 4))))) (blk_of N__law_product dq__law_product.scope rfl rfl (by decide +kernel)) (by decide) (fun s H C cl fp => (dg_name [5] sc__law_product.nd)) (fun s H C cl fp => (dts_one (dt_val (d_call (G__law_meet.mono (by decide)) hr takes0 rfl (zq31 Z) F__law_meet.kp (BindD.pos F__law_meet 2 fun _ _ _ _ _ _ us hl => match us, hl with | [a0, a1], _ => by kernel_rfl) (af (da_cons (d_var (pv 5)) (da_cons (d_ix (d_var (pv 2)) (d_var (pv 4))) da_nil))))))) (fun s H C cl fp => (d_var (pv 5)))) da_nil))) da_nil)))))))
      (dss_one (ds_ret (d_var (pv 3))))))
theorem w_check_line (Z : Zed K mg) (cdv : Value) (A : Around) (outer : List Env) (s : Shared) (H : Hp) (E : XK) (hr : Rm 0 (A.deeper (envOfC dq_check_line.qual dq_check_line.scope s.heap.objs.size (dq_check_line.loc K) cdv))) :
    DSs (cxOf (L2.CX P w) P w K mg base N_check_line dq_check_line.qual dq_check_line.scope (dq_check_line.loc K) cdv A outer s H E) (fun c d _ H => E c d H) dq_check_line.body (r_check_line K) := by
  have tk : Takes (cxOf (L2.CX P w) P w K mg base N_check_line dq_check_line.qual dq_check_line.scope (dq_check_line.loc K) cdv A outer s H E) (fun c d _ H => E c d H) := takes_of rfl rfl rfl rfl
  exact (dss_one (ds_if (dt_not (dt_val (d_callB (call_isiC (zq34 Z)) rfl (zq3 Z) (by decide +kernel) (da_cons (d_var (pv 0)) (da_cons (d_gref rfl (zq26 Z)) da_nil))))) (dss_one ds_never) dss_nil))
theorem w_Line___len__ (Z : Zed K mg) (cdv : Value) (A : Around) (outer : List Env) (s : Shared) (H : Hp) (E : XK) (hr : Rm 0 (A.deeper (envOfC dq_Line___len__.qual dq_Line___len__.scope s.heap.objs.size (dq_Line___len__.loc K) cdv))) :
    DSs (cxOf (L2.CX P w) P w K mg base N_Line___len__ dq_Line___len__.qual dq_Line___len__.scope (dq_Line___len__.loc K) cdv A outer s H E) (fun c d _ H => E c d H) dq_Line___len__.body (r_Line___len__ K) := by
  have tk : Takes (cxOf (L2.CX P w) P w K mg base N_Line___len__ dq_Line___len__.qual dq_Line___len__.scope (dq_Line___len__.loc K) cdv A outer s H E) (fun c d _ H => E c d H) := takes_of rfl rfl rfl rfl
  exact (dss_one (ds_ret (d_callB call_lenDD rfl (zq11 Z) (by decide +kernel) (da_cons (d_fld (zq18 Z) (zq20 Z) (d_var (pv 0))) da_nil))))
theorem w_Line_capacity (Z : Zed K mg) (cdv : Value) (A : Around) (outer : List Env) (s : Shared) (H : Hp) (E : XK) (hr : Rm 0 (A.deeper (envOfC dq_Line_capacity.qual dq_Line_capacity.scope s.heap.objs.size (dq_Line_capacity.loc K) cdv))) :
    DSs (cxOf (L2.CX P w) P w K mg base N_Line_capacity dq_Line_capacity.qual dq_Line_capacity.scope (dq_Line_capacity.loc K) cdv A outer s H E) (fun c d _ H => E c d H) dq_Line_capacity.body (r_Line_capacity K) := by
  have tk : Takes (cxOf (L2.CX P w) P w K mg base N_Line_capacity dq_Line_capacity.qual dq_Line_capacity.scope (dq_Line_capacity.loc K) cdv A outer s H E) (fun c d _ H => E c d H) := takes_of rfl rfl rfl rfl
  exact (dss_one (ds_ret (d_fld (zq18 Z) (zq19 Z) (d_var (pv 0)))))
theorem w_meet (Z : Zed K mg) (cdv : Value) (A : Around) (outer : List Env) (s : Shared) (H : Hp) (E : XK) (hr : Rm 0 (A.deeper (envOfC dq_meet.qual dq_meet.scope s.heap.objs.size (dq_meet.loc K) cdv))) :
    DSs (cxOf (L2.CX P w) P w K mg base N_meet dq_meet.qual dq_meet.scope (dq_meet.loc K) cdv A outer s H E) (fun c d _ H => E c d H) dq_meet.body (r_meet K) := by
  have tk : Takes (cxOf (L2.CX P w) P w K mg base N_meet dq_meet.qual dq_meet.scope (dq_meet.loc K) cdv A outer s H E) (fun c d _ H => E c d H) := takes_of rfl rfl rfl rfl
  exact (dss_one (ds_ret (de_and (d_cmp op_ltD (d_ix (d_var (pv 0)) d_int) (d_ix (d_var (pv 1)) d_int)) (de_one (d_cmp op_ltD (d_ix (d_var (pv 1)) d_int) (d_ix (d_var (pv 0)) d_int))))))
theorem w_earlier (Z : Zed K mg) (p_meet : Pm P w K mg base 1 dq_meet ["one", "other"] (sp_meet K)) (cdv : Value) (A : Around) (outer : List Env) (s : Shared) (H : Hp) (E : XK) (hr : Rm 1 (A.deeper (envOfC dq_earlier.qual dq_earlier.scope s.heap.objs.size (dq_earlier.loc K) cdv))) :
    DSs (cxOf (L2.CX P w) P w K mg base N_earlier dq_earlier.qual dq_earlier.scope (dq_earlier.loc K) cdv A outer s H E) (fun c d _ H => E c d H) dq_earlier.body (r_earlier K) := by
  have tk : Takes (cxOf (L2.CX P w) P w K mg base N_earlier dq_earlier.qual dq_earlier.scope (dq_earlier.loc K) cdv A outer s H E) (fun c d _ H => E c d H) := takes_of rfl rfl rfl rfl
  obtain ⟨fd_meet, F_meet, G_meet⟩ := p_meet.ex
  exact (dss_one (ds_ret (d_lc (own := [("trip", 2)]) (ix := [2]) rfl sc_earlier.nd (di_val (d_sl (d_fld (zq18 Z) (zq23 Z) (d_var (pv 0))) do_none (do_some (d_var (pv 1))))) (blk_of N_earlier dq_earlier.scope rfl rfl (by decide +kernel)) (by decide) (fun s H C cl fp => (dg_name [2] sc_earlier.nd)) (fun s H C cl fp => (dts_one (dt_val (d_call (G_meet.mono (by decide)) hr takes0 rfl (zq38 Z) F_meet.kp (BindD.pos F_meet 2 fun _ _ _ _ _ _ us hl => match us, hl with | [a0, a1], _ => by kernel_rfl) (af (da_cons (d_var (pv 2)) (da_cons (d_ix (d_fld (zq18 Z) (zq23 Z) (d_var (pv 0))) (d_var (pv 1))) da_nil))))))) (fun s H C cl fp => (d_var (pv 2))))))
theorem w_sizes_of (Z : Zed K mg) (p_Line___len__ : Pm P w K mg base 1 dq_Line___len__ ["self"] (sp_Line___len__ K)) (p_Line_capacity : Pm P w K mg base 1 dq_Line_capacity ["self"] (sp_Line_capacity K)) (p_earlier : Pm P w K mg base 2 dq_earlier ["line", "index"] (sp_earlier K)) (cdv : Value) (A : Around) (outer : List Env) (s : Shared) (H : Hp) (E : XK) (hr : Rm 2 (A.deeper (envOfC dq_sizes_of.qual dq_sizes_of.scope s.heap.objs.size (dq_sizes_of.loc K) cdv))) :
    DSs (cxOf (L2.CX P w) P w K mg base N_sizes_of dq_sizes_of.qual dq_sizes_of.scope (dq_sizes_of.loc K) cdv A outer s H E) (fun c d _ H => E c d H) dq_sizes_of.body (r_sizes_of K) := by
  have tk : Takes (cxOf (L2.CX P w) P w K mg base N_sizes_of dq_sizes_of.qual dq_sizes_of.scope (dq_sizes_of.loc K) cdv A outer s H E) (fun c d _ H => E c d H) := takes_of rfl rfl rfl rfl
  obtain ⟨fd_Line___len__, F_Line___len__, G_Line___len__⟩ := p_Line___len__.ex
  obtain ⟨fd_Line_capacity, F_Line_capacity, G_Line_capacity⟩ := p_Line_capacity.ex
  obtain ⟨fd_earlier, F_earlier, G_earlier⟩ := p_earlier.ex
  exact (dss_one (ds_ret (d_lc (own := [("index", 1)]) (ix := [1]) rfl sc_sizes_of.nd (di_rg1 rfl (zq29 Z) (da_cons (d_lenX (zq18 Z) (zq36 Z) (G_Line___len__.mono (by decide)) hr (BindD.pos F_Line___len__ 1 fun _ _ _ _ _ _ us hl => match us, hl with | [a0], _ => by kernel_rfl) rfl (zq11 Z) (da_cons (d_var (pv 0)) da_nil)) da_nil)) (blk_of N_sizes_of dq_sizes_of.scope rfl rfl (by decide +kernel)) (by decide) (fun s H C cl fp => (dg_name [1] sc_sizes_of.nd)) (fun s H C cl fp => dts_nil) (fun s H C cl fp => (d_callB (call_max2D rfl) rfl (zq30 Z) (by decide +kernel) (da_cons d_int (da_cons (d_op op_subD (d_prop (zq18 Z) (zq37 Z) (G_Line_capacity.mono (by decide)) hr (BindD.pos F_Line_capacity 1 fun _ _ _ _ _ _ us hl => match us, hl with | [a0], _ => by kernel_rfl) (d_var (pv 0))) (d_callB call_lenDD rfl (zq11 Z) (by decide +kernel) (da_cons (d_call (G_earlier.mono (by decide)) hr takes0 rfl (zq39 Z) F_earlier.kp (BindD.pos F_earlier 2 fun _ _ _ _ _ _ us hl => match us, hl with | [a0, a1], _ => by kernel_rfl) (af (da_cons (d_var (pv 0)) (da_cons (d_var (pv 1)) da_nil)))) da_nil))) da_nil)))))))
theorem w_count (Z : Zed K mg) (p_check_line : Pm P w K mg base 1 dq_check_line ["thing"] (sp_check_line K)) (p_sizes_of : Pm P w K mg base 3 dq_sizes_of ["line"] (sp_sizes_of K)) (cdv : Value) (A : Around) (outer : List Env) (s : Shared) (H : Hp) (E : XK) (hr : Rm 3 (A.deeper (envOfC dq_count.qual dq_count.scope s.heap.objs.size (dq_count.loc K) cdv))) :
    DSs (cxOf (L2.CX P w) P w K mg base N_count dq_count.qual dq_count.scope (dq_count.loc K) cdv A outer s H E) (fun c d _ H => E c d H) dq_count.body (r_count K) := by
  have tk : Takes (cxOf (L2.CX P w) P w K mg base N_count dq_count.qual dq_count.scope (dq_count.loc K) cdv A outer s H E) (fun c d _ H => E c d H) := takes_of rfl rfl rfl rfl
  obtain ⟨fd_check_line, F_check_line, G_check_line⟩ := p_check_line.ex
  obtain ⟨fd_sizes_of, F_sizes_of, G_sizes_of⟩ := p_sizes_of.ex
  exact (dss_cons (ds_expr (d_call (G_check_line.mono (by decide)) hr tk rfl (zq35 Z) F_check_line.kp (BindD.pos F_check_line 1 fun _ _ _ _ _ _ us hl => match us, hl with | [a0], _ => by kernel_rfl) (af (da_cons (d_var (pv 0)) da_nil))))
      (dss_cons (ds_set (i := 1) sc_count.nd d_int)
      (dss_cons (ds_for (passes_of rfl) rfl (di_val (d_call (G_sizes_of.mono (by decide)) hr tk rfl (zq40 Z) F_sizes_of.kp (BindD.pos F_sizes_of 1 fun _ _ _ _ _ _ us hl => match us, hl with | [a0], _ => by kernel_rfl) (af (da_cons (d_var (pv 0)) da_nil)))) (dg_name [2] sc_count.nd) (dss_one (ds_aug (i := 1) sc_count.nd op_imulI (d_var (pv 2)))))
      (dss_one (ds_ret (d_var (pv 1)))))))
theorem w_passes (Z : Zed K mg) (cdv : Value) (A : Around) (outer : List Env) (s : Shared) (H : Hp) (E : XK) (hr : Rm 0 (A.deeper (envOfC dq_passes.qual dq_passes.scope s.heap.objs.size (dq_passes.loc K) cdv))) :
    DSs (cxOf (L2.CX P w) P w K mg base N_passes dq_passes.qual dq_passes.scope (dq_passes.loc K) cdv A outer s H E) (fun c d _ H => E c d H) dq_passes.body (r_passes K) := by
  have tk : Takes (cxOf (L2.CX P w) P w K mg base N_passes dq_passes.qual dq_passes.scope (dq_passes.loc K) cdv A outer s H E) (fun c d _ H => E c d H) := takes_of rfl rfl rfl rfl
  exact (dss_one (ds_ret (chain_run op_leD op_ltD (d_ix (d_var (pv 0)) d_int) (d_var (pv 1)) (d_ix (d_var (pv 0)) d_int))))
theorem w_load_of (Z : Zed K mg) (p_passes : Pm P w K mg base 1 dq_passes ["trip", "station"] (sp_passes K)) (cdv : Value) (A : Around) (outer : List Env) (s : Shared) (H : Hp) (E : XK) (hr : Rm 1 (A.deeper (envOfC dq_load_of.qual dq_load_of.scope s.heap.objs.size (dq_load_of.loc K) cdv))) :
    DSs (cxOf (L2.CX P w) P w K mg base N_load_of dq_load_of.qual dq_load_of.scope (dq_load_of.loc K) cdv A outer s H E) (fun c d _ H => E c d H) dq_load_of.body (r_load_of K) := by
  have tk : Takes (cxOf (L2.CX P w) P w K mg base N_load_of dq_load_of.qual dq_load_of.scope (dq_load_of.loc K) cdv A outer s H E) (fun c d _ H => E c d H) := takes_of rfl rfl rfl rfl
  obtain ⟨fd_passes, F_passes, G_passes⟩ := p_passes.ex
  exact (dss_one (ds_ret (d_callB call_lenDD rfl (zq11 Z) (by decide +kernel) (da_cons (d_lc (own := [("trip", 2)]) (ix := [2]) rfl sc_load_of.nd (di_val (d_var (pv 0))) (blk_of N_load_of dq_load_of.scope rfl rfl (by decide +kernel)) (by decide) (fun s H C cl fp => (dg_name [2] sc_load_of.nd)) (fun s H C cl fp => (dts_one (dt_val (d_call (G_passes.mono (by decide)) hr takes0 rfl (zq42 Z) F_passes.kp (BindD.pos F_passes 2 fun _ _ _ _ _ _ us hl => match us, hl with | [a0, a1], _ => by kernel_rfl) (af (da_cons (d_var (pv 2)) (da_cons (d_var (pv 1)) da_nil))))))) (fun s H C cl fp => (d_var (pv 2)))) da_nil))))
theorem w_Line_load (Z : Zed K mg) (p_is_from : Pm P w K mg base 2 dq_is_from ["thing", "least"] (sp_is_from K)) (p_load_of : Pm P w K mg base 2 dq_load_of ["trips", "station"] (sp_load_of K)) (cdv : Value) (A : Around) (outer : List Env) (s : Shared) (H : Hp) (E : XK) (hr : Rm 2 (A.deeper (envOfC dq_Line_load.qual dq_Line_load.scope s.heap.objs.size (dq_Line_load.loc K) cdv))) :
    DSs (cxOf (L2.CX P w) P w K mg base N_Line_load dq_Line_load.qual dq_Line_load.scope (dq_Line_load.loc K) cdv A outer s H E) (fun c d _ H => E c d H) dq_Line_load.body (r_Line_load K) := by
  have tk : Takes (cxOf (L2.CX P w) P w K mg base N_Line_load dq_Line_load.qual dq_Line_load.scope (dq_Line_load.loc K) cdv A outer s H E) (fun c d _ H => E c d H) := takes_of rfl rfl rfl rfl
  obtain ⟨fd_is_from, F_is_from, G_is_from⟩ := p_is_from.ex
  obtain ⟨fd_load_of, F_load_of, G_load_of⟩ := p_load_of.ex
  exact (dss_cons (ds_if (dt_not (dt_val (d_call (G_is_from.mono (by decide)) hr tk rfl (zq14 Z) F_is_from.kp (BindD.pos F_is_from 2 fun _ _ _ _ _ _ us hl => match us, hl with | [a0, a1], _ => by kernel_rfl) (af (da_cons (d_var (pv 1)) (da_cons d_int da_nil)))))) (dss_one ds_never) dss_nil)
      (dss_one (ds_ret (d_call (G_load_of.mono (by decide)) hr tk rfl (zq43 Z) F_load_of.kp (BindD.pos F_load_of 2 fun _ _ _ _ _ _ us hl => match us, hl with | [a0, a1], _ => by kernel_rfl) (af (da_cons (d_fld (zq18 Z) (zq20 Z) (d_var (pv 0))) (da_cons (d_var (pv 1)) da_nil)))))))
theorem w_overfull (Z : Zed K mg) (p_check_line : Pm P w K mg base 1 dq_check_line ["thing"] (sp_check_line K)) (p_Line_load : Pm P w K mg base 3 dq_Line_load ["self", "station"] (sp_Line_load K)) (p_Line_capacity : Pm P w K mg base 1 dq_Line_capacity ["self"] (sp_Line_capacity K)) (cdv : Value) (A : Around) (outer : List Env) (s : Shared) (H : Hp) (E : XK) (hr : Rm 3 (A.deeper (envOfC dq_overfull.qual dq_overfull.scope s.heap.objs.size (dq_overfull.loc K) cdv))) :
    DSs (cxOf (L2.CX P w) P w K mg base N_overfull dq_overfull.qual dq_overfull.scope (dq_overfull.loc K) cdv A outer s H E) (fun c d _ H => E c d H) dq_overfull.body (r_overfull K) := by
  have tk : Takes (cxOf (L2.CX P w) P w K mg base N_overfull dq_overfull.qual dq_overfull.scope (dq_overfull.loc K) cdv A outer s H E) (fun c d _ H => E c d H) := takes_of rfl rfl rfl rfl
  obtain ⟨fd_check_line, F_check_line, G_check_line⟩ := p_check_line.ex
  obtain ⟨fd_Line_load, F_Line_load, G_Line_load⟩ := p_Line_load.ex
  obtain ⟨fd_Line_capacity, F_Line_capacity, G_Line_capacity⟩ := p_Line_capacity.ex
  exact (dss_cons (ds_expr (d_call (G_check_line.mono (by decide)) hr tk rfl (zq35 Z) F_check_line.kp (BindD.pos F_check_line 1 fun _ _ _ _ _ _ us hl => match us, hl with | [a0], _ => by kernel_rfl) (af (da_cons (d_var (pv 0)) da_nil))))
      (dss_cons (ds_for (passes_of rfl) rfl (di_val (d_fld (zq18 Z) (zq23 Z) (d_var (pv 0)))) (dg_name [1] sc_overfull.nd) (dss_one (ds_if (dt_cmp op_gtD (d_meth (zq18 Z) (zq44 Z) (G_Line_load.mono (by decide)) hr tk (BindD.pos F_Line_load 2 fun _ _ _ _ _ _ us hl => match us, hl with | [a0, a1], _ => by kernel_rfl) (d_var (pv 0)) (af (da_cons (d_ix (d_var (pv 1)) d_int) da_nil))) (d_prop (zq18 Z) (zq37 Z) (G_Line_capacity.mono (by decide)) hr (BindD.pos F_Line_capacity 1 fun _ _ _ _ _ _ us hl => match us, hl with | [a0], _ => by kernel_rfl) (d_var (pv 0)))) (dss_one (ds_ret (d_ix (d_var (pv 1)) d_int))) dss_nil)))
      (dss_one (ds_ret d_non))))
theorem w__law_told (Z : Zed K mg) (p_Line___init__ : Pm P w K mg base 5 dq_Line___init__ ["self", "seats", "trips"] (sp_Line___init__ K)) (p__law_by_start : Pm P w K mg base 1 dq__law_by_start ["rides"] (sp__law_by_start K)) (p__law_load : Pm P w K mg base 1 dq__law_load ["rides", "place"] (sp__law_load K)) (p__law_product : Pm P w K mg base 2 dq__law_product ["width", "rides"] (sp__law_product K)) (p_count : Pm P w K mg base 4 dq_count ["line"] (sp_count K)) (p_overfull : Pm P w K mg base 4 dq_overfull ["line"] (sp_overfull K)) (cdv : Value) (A : Around) (outer : List Env) (s : Shared) (H : Hp) (E : XK) (hr : Rm 6 (A.deeper (envOfC dq__law_told.qual dq__law_told.scope s.heap.objs.size (dq__law_told.loc K) cdv))) :
    DSs (cxOf (L2.CX P w) P w K mg base N__law_told dq__law_told.qual dq__law_told.scope (dq__law_told.loc K) cdv A outer s H E) (fun c d _ H => E c d H) dq__law_told.body (r__law_told K) := by
  have tk : Takes (cxOf (L2.CX P w) P w K mg base N__law_told dq__law_told.qual dq__law_told.scope (dq__law_told.loc K) cdv A outer s H E) (fun c d _ H => E c d H) := takes_of rfl rfl rfl rfl
  obtain ⟨fd_Line___init__, F_Line___init__, G_Line___init__⟩ := p_Line___init__.ex
  obtain ⟨fd__law_by_start, F__law_by_start, G__law_by_start⟩ := p__law_by_start.ex
  obtain ⟨fd__law_load, F__law_load, G__law_load⟩ := p__law_load.ex
  obtain ⟨fd__law_product, F__law_product, G__law_product⟩ := p__law_product.ex
  obtain ⟨fd_count, F_count, G_count⟩ := p_count.ex
  obtain ⟨fd_overfull, F_overfull, G_overfull⟩ := p_overfull.ex
  exact (dss_cons (ds_set (i := 2) sc__law_told.nd (d_make false (zq25 Z) (G_Line___init__.mono (by decide)) hr tk (BindD.dfl (dd := []) F_Line___init__ 3 [] 1 (by simp [Dq.dvs, dq_Line___init__]) (fun A H => .nil) fun _ _ _ _ _ _ _ us ws its hl hw hi => match us, ws, its, hl, hw, hi with | [a0, a1, a2], [], [c0], _, _, _ => ⟨_, rfl, by kernel_rfl⟩) (d_gref rfl (zq26 Z)) (af (da_cons (d_var (pv 0)) (da_cons (d_var (pv 1)) da_nil)))))
      (dss_cons (ds_setLc (own := [("ride", 4)]) (ix := [4]) rfl sc__law_told.nd (di_val (d_call (G__law_by_start.mono (by decide)) hr tk rfl (zq27 Z) F__law_by_start.kp (BindD.pos F__law_by_start 1 fun _ _ _ _ _ _ us hl => match us, hl with | [a0], _ => by kernel_rfl) (af (da_cons (d_var (pv 1)) da_nil)))) (blk_of N__law_told dq__law_told.scope rfl rfl (by decide +kernel)) (by decide) (fun s H C cl fp => (dg_name [4] sc__law_told.nd)) (fun s H C cl fp => (dts_one (dt_cmp op_gtD (d_call (G__law_load.mono (by decide)) hr takes0 rfl (zq28 Z) F__law_load.kp (BindD.pos F__law_load 2 fun _ _ _ _ _ _ us hl => match us, hl with | [a0, a1], _ => by kernel_rfl) (af (da_cons (d_var (pv 1)) (da_cons (d_ix (d_var (pv 4)) d_int) da_nil)))) (d_var (pv 0))))) (fun s H C cl fp => (d_ix (d_var (pv 4)) d_int)))
      (dss_cons (ds_set (i := 5) sc__law_told.nd (d_lst (da_cons (d_ix (d_op op_addD (d_var (pv 3)) (d_lst (da_cons d_non da_nil))) d_int) (da_cons (d_call (G__law_product.mono (by decide)) hr tk rfl (zq32 Z) F__law_product.kp (BindD.pos F__law_product 2 fun _ _ _ _ _ _ us hl => match us, hl with | [a0, a1], _ => by kernel_rfl) (af (da_cons (d_var (pv 0)) (da_cons (d_var (pv 1)) da_nil)))) da_nil))))
      (dss_one (ds_ret (d_cmp (op_eqDD (Room.hu hr)) (d_callB (call_reprD hr) rfl (zq33 Z) (by decide +kernel) (da_cons (d_op op_addD (d_lst (da_cons (d_call (G_overfull.mono (by decide)) hr tk rfl (zq45 Z) F_overfull.kp (BindD.pos F_overfull 1 fun _ _ _ _ _ _ us hl => match us, hl with | [a0], _ => by kernel_rfl) (af (da_cons (d_var (pv 2)) da_nil))) (da_cons (d_call (G_count.mono (by decide)) hr tk rfl (zq41 Z) F_count.kp (BindD.pos F_count 1 fun _ _ _ _ _ _ us hl => match us, hl with | [a0], _ => by kernel_rfl) (af (da_cons (d_var (pv 2)) da_nil))) da_nil))) (d_lst (da_cons (d_call (G_overfull.mono (by decide)) hr tk rfl (zq45 Z) F_overfull.kp (BindD.key F_overfull 0 ["line"] fun _ _ _ _ _ _ us ws hl hw => match us, ws, hl, hw with | [], [b0], _, _ => by kernel_rfl) (afk0 (dk_cons (d_var (pv 2)) dk_nil))) (da_cons (d_call (G_count.mono (by decide)) hr tk rfl (zq41 Z) F_count.kp (BindD.key F_count 0 ["line"] fun _ _ _ _ _ _ us ws hl hw => match us, ws, hl, hw with | [], [b0], _, _ => by kernel_rfl) (afk0 (dk_cons (d_var (pv 2)) dk_nil))) da_nil)))) da_nil)) (d_callB (call_reprD hr) rfl (zq33 Z) (by decide +kernel) (da_cons (d_op op_mulD (d_var (pv 5)) d_int) da_nil))))))))
theorem w__law_draw (Z : Zed K mg) (cdv : Value) (A : Around) (outer : List Env) (s : Shared) (H : Hp) (E : XK) (hr : Rm 0 (A.deeper (envOfC dq__law_draw.qual dq__law_draw.scope s.heap.objs.size (dq__law_draw.loc K) cdv))) :
    DSs (cxOf (L2.CX P w) P w K mg base N__law_draw dq__law_draw.qual dq__law_draw.scope (dq__law_draw.loc K) cdv A outer s H E) (fun c d _ H => E c d H) dq__law_draw.body (r__law_draw K) := by
  have tk : Takes (cxOf (L2.CX P w) P w K mg base N__law_draw dq__law_draw.qual dq__law_draw.scope (dq__law_draw.loc K) cdv A outer s H E) (fun c d _ H => E c d H) := takes_of rfl rfl rfl rfl
  exact (dss_cons (ds_asg (ix := []) (d_op op_addD (d_ix (d_var (pv 0)) d_int) d_int) (dg_sub (d_var (pv 0)) d_int))
      (dss_cons (ds_set (i := 2) sc__law_draw.nd (d_ix (d_var (pv 0)) d_int))
      (dss_cons (ds_asg (ix := []) (d_op op_modD (d_op op_addD (d_op op_addD (d_op op_mulD (d_var (pv 2)) (d_op op_addD (d_op op_modD (d_var (pv 2)) d_int) d_int)) (d_op op_mulD d_int (d_ix (d_var (pv 0)) d_int))) d_int) d_int) (dg_sub (d_var (pv 0)) d_int))
      (dss_cons (ds_if (dt_cmp op_gtD (d_ix (d_var (pv 0)) d_int) d_int) (dss_cons (ds_asg (ix := [3]) (d_callB call_divmodD rfl (zq48 Z) (by decide +kernel) (da_cons (d_ix (d_var (pv 0)) d_int) (da_cons (d_var (pv 1)) da_nil))) (dg_tup rfl (dgs_cons (dg_sub (d_var (pv 0)) d_int) (dgs_cons (dg_name [3] sc__law_draw.nd) dgs_nil))))
      (dss_one (ds_ret (d_var (pv 3))))) dss_nil)
      (dss_one (ds_ret (d_op op_modD (d_op op_fdivD (d_ix (d_var (pv 0)) d_int) d_int) (d_var (pv 1)))))))))
theorem w__law_far (Z : Zed K mg) (p__law_draw : Pm P w K mg base 1 dq__law_draw ["pool", "many"] (sp__law_draw K)) (cdv : Value) (A : Around) (outer : List Env) (s : Shared) (H : Hp) (E : XK) (hr : Rm 1 (A.deeper (envOfC dq__law_far.qual dq__law_far.scope s.heap.objs.size (dq__law_far.loc K) cdv))) :
    DSs (cxOf (L2.CX P w) P w K mg base N__law_far dq__law_far.qual dq__law_far.scope (dq__law_far.loc K) cdv A outer s H E) (fun c d _ H => E c d H) dq__law_far.body (r__law_far K) := by
  have tk : Takes (cxOf (L2.CX P w) P w K mg base N__law_far dq__law_far.qual dq__law_far.scope (dq__law_far.loc K) cdv A outer s H E) (fun c d _ H => E c d H) := takes_of rfl rfl rfl rfl
  obtain ⟨fd__law_draw, F__law_draw, G__law_draw⟩ := p__law_draw.ex
  exact (dss_cons (ds_par3 (i := 2) (j := 3) (l := 4) rfl sc__law_far.nd (da_cons (d_newL da_nil) (da_cons (d_call (G__law_draw.mono (by decide)) hr tk rfl (zq49 Z) F__law_draw.kp (BindD.pos F__law_draw 2 fun _ _ _ _ _ _ us hl => match us, hl with | [a0, a1], _ => by kernel_rfl) (af (da_cons (d_var (pv 0)) (da_cons d_int da_nil)))) (da_cons (d_call (G__law_draw.mono (by decide)) hr tk rfl (zq49 Z) F__law_draw.kp (BindD.pos F__law_draw 2 fun _ _ _ _ _ _ us hl => match us, hl with | [a0, a1], _ => by kernel_rfl) (af (da_cons (d_var (pv 0)) (da_cons d_int da_nil)))) da_nil))))
      (dss_cons (ds_for (passes_of rfl) rfl (di_rg1 rfl (zq29 Z) (da_cons (d_op op_addD (d_var (pv 1)) d_int) da_nil)) (dg_name [5] sc__law_far.nd) (dss_cons (ds_expr (d_app (d_var (pv 2)) (da_cons (de_if (dt_cmp op_gtD (d_var (pv 4)) d_int) (d_var (pv 5)) (d_var (pv 3))) da_nil)))
      (dss_one (ds_set (i := 3) sc__law_far.nd (d_op op_addD (d_op op_addD (d_var (pv 3)) d_int) (d_ix (d_lst (da_cons d_int (da_cons (d_call (G__law_draw.mono (by decide)) hr tk rfl (zq49 Z) F__law_draw.kp (BindD.pos F__law_draw 2 fun _ _ _ _ _ _ us hl => match us, hl with | [a0, a1], _ => by kernel_rfl) (af (da_cons (d_var (pv 0)) (da_cons d_int da_nil)))) (da_cons (d_op op_powD d_int d_int) da_nil)))) (d_call (G__law_draw.mono (by decide)) hr tk rfl (zq49 Z) F__law_draw.kp (BindD.pos F__law_draw 2 fun _ _ _ _ _ _ us hl => match us, hl with | [a0, a1], _ => by kernel_rfl) (af (da_cons (d_var (pv 0)) (da_cons d_int da_nil))))))))))
      (dss_one (ds_ret (d_var (pv 2))))))
theorem w__law_rides (Z : Zed K mg) (p__law_far : Pm P w K mg base 2 dq__law_far ["pool", "high"] (sp__law_far K)) (p__law_draw : Pm P w K mg base 1 dq__law_draw ["pool", "many"] (sp__law_draw K)) (cdv : Value) (A : Around) (outer : List Env) (s : Shared) (H : Hp) (E : XK) (hr : Rm 2 (A.deeper (envOfC dq__law_rides.qual dq__law_rides.scope s.heap.objs.size (dq__law_rides.loc K) cdv))) :
    DSs (cxOf (L2.CX P w) P w K mg base N__law_rides dq__law_rides.qual dq__law_rides.scope (dq__law_rides.loc K) cdv A outer s H E) (fun c d _ H => E c d H) dq__law_rides.body (r__law_rides K) := by
  have tk : Takes (cxOf (L2.CX P w) P w K mg base N__law_rides dq__law_rides.qual dq__law_rides.scope (dq__law_rides.loc K) cdv A outer s H E) (fun c d _ H => E c d H) := takes_of rfl rfl rfl rfl
  obtain ⟨fd__law_far, F__law_far, G__law_far⟩ := p__law_far.ex
  obtain ⟨fd__law_draw, F__law_draw, G__law_draw⟩ := p__law_draw.ex
  exact (dss_cons (ds_par3 (i := 3) (j := 4) (l := 5) rfl sc__law_rides.nd (da_cons (d_call (G__law_far.mono (by decide)) hr tk rfl (zq50 Z) F__law_far.kp (BindD.pos F__law_far 2 fun _ _ _ _ _ _ us hl => match us, hl with | [a0, a1], _ => by kernel_rfl) (af (da_cons (d_var (pv 0)) (da_cons (d_var (pv 2)) da_nil)))) (da_cons (d_newL da_nil) (da_cons d_int da_nil))))
      (dss_cons (ds_for (passes_of rfl) rfl (di_val (d_var (pv 1))) (dg_name [6] sc__law_rides.nd) (dss_cons (ds_set (i := 7) sc__law_rides.nd (d_call (G__law_draw.mono (by decide)) hr tk rfl (zq49 Z) F__law_draw.kp (BindD.pos F__law_draw 2 fun _ _ _ _ _ _ us hl => match us, hl with | [a0, a1], _ => by kernel_rfl) (af (da_cons (d_var (pv 0)) (da_cons d_int da_nil)))))
      (dss_cons (ds_set (i := 8) sc__law_rides.nd (de_if (dt_w (dw_and (dt_cmp (op_eqDD (Room.hu hr)) (d_var (pv 7)) d_int) (dw_and1 (dt_cmp op_ltD (d_var (pv 5)) (d_var (pv 2)))))) (d_var (pv 5)) (d_call (G__law_draw.mono (by decide)) hr tk rfl (zq49 Z) F__law_draw.kp (BindD.pos F__law_draw 2 fun _ _ _ _ _ _ us hl => match us, hl with | [a0, a1], _ => by kernel_rfl) (af (da_cons (d_var (pv 0)) (da_cons (d_var (pv 2)) da_nil))))))
      (dss_cons (ds_set (i := 5) sc__law_rides.nd (d_op op_addD (d_op op_addD (d_var (pv 8)) d_int) (d_call (G__law_draw.mono (by decide)) hr tk rfl (zq49 Z) F__law_draw.kp (BindD.pos F__law_draw 2 fun _ _ _ _ _ _ us hl => match us, hl with | [a0, a1], _ => by kernel_rfl) (af (da_cons (d_var (pv 0)) (da_cons (de_if (dt_cmp op_gtD (d_op op_subD (d_var (pv 2)) (d_var (pv 8))) d_int) (d_ix (d_lst (da_cons d_int (da_cons d_int (da_cons (d_op op_subD (d_var (pv 2)) (d_var (pv 8))) (da_cons (d_op op_subD (d_var (pv 2)) (d_var (pv 8))) da_nil))))) (d_var (pv 7))) d_int) da_nil))))))
      (dss_cons (ds_set (i := 5) sc__law_rides.nd (d_callB (call_min2D rfl) rfl (zq47 Z) (by decide +kernel) (da_cons (d_var (pv 5)) (da_cons (d_var (pv 2)) da_nil))))
      (dss_one (ds_expr (d_app (d_var (pv 4)) (da_cons (d_tup (da_cons (d_var (pv 6)) (da_cons (d_ix (d_var (pv 3)) (d_var (pv 8))) (da_cons (d_ix (d_var (pv 3)) (d_var (pv 5))) da_nil)))) da_nil)))))))))
      (dss_one (ds_ret (d_callTy call_tupleD rfl (zq0 Z) (by decide +kernel) (da_cons (d_callB call_sortD rfl (zq21 Z) (by decide +kernel) (da_cons (d_var (pv 4)) da_nil)) da_nil))))))
theorem w__law_words (Z : Zed K mg) (p__law_draw : Pm P w K mg base 1 dq__law_draw ["pool", "many"] (sp__law_draw K)) (cdv : Value) (A : Around) (outer : List Env) (s : Shared) (H : Hp) (E : XK) (hr : Rm 1 (A.deeper (envOfC dq__law_words.qual dq__law_words.scope s.heap.objs.size (dq__law_words.loc K) cdv))) :
    DSs (cxOf (L2.CX P w) P w K mg base N__law_words dq__law_words.qual dq__law_words.scope (dq__law_words.loc K) cdv A outer s H E) (fun c d _ H => E c d H) dq__law_words.body (r__law_words K) := by
  have tk : Takes (cxOf (L2.CX P w) P w K mg base N__law_words dq__law_words.qual dq__law_words.scope (dq__law_words.loc K) cdv A outer s H E) (fun c d _ H => E c d H) := takes_of rfl rfl rfl rfl
  obtain ⟨fd__law_draw, F__law_draw, G__law_draw⟩ := p__law_draw.ex
  exact (dss_cons (ds_set (i := 2) sc__law_words.nd d_str)
      (dss_cons (ds_set (i := 3) sc__law_words.nd (d_lst (da_cons d_str (da_cons d_str (da_cons d_str (da_cons d_str (da_cons d_str (da_cons d_str (da_cons d_str (da_cons d_str (da_cons d_str (da_cons d_str (da_cons d_str (da_cons d_str da_nil))))))))))))))
      (dss_cons (ds_set (i := 3) sc__law_words.nd (d_op op_addD (d_var (pv 3)) (d_lst (da_cons d_str (da_cons d_str (da_cons d_str (da_cons d_str (da_cons d_str (da_cons d_str (da_cons d_str (da_cons d_str (da_cons d_str (da_cons d_str (da_cons d_str (da_cons d_str da_nil)))))))))))))))
      (dss_cons (ds_asg (ix := [4, 5]) (d_tup (da_cons (d_call (G__law_draw.mono (by decide)) hr tk rfl (zq49 Z) F__law_draw.kp (BindD.pos F__law_draw 2 fun _ _ _ _ _ _ us hl => match us, hl with | [a0, a1], _ => by kernel_rfl) (af (da_cons (d_var (pv 0)) (da_cons d_int da_nil)))) (da_cons (d_call (G__law_draw.mono (by decide)) hr tk rfl (zq49 Z) F__law_draw.kp (BindD.pos F__law_draw 2 fun _ _ _ _ _ _ us hl => match us, hl with | [a0, a1], _ => by kernel_rfl) (af (da_cons (d_var (pv 0)) (da_cons d_int da_nil)))) da_nil))) (dg_tup rfl (dgs_cons (dg_name [4, 5] sc__law_words.nd) (dgs_cons (dg_name [4, 5] sc__law_words.nd) dgs_nil))))
      (dss_cons (ds_if (dt_cmp (op_eqDD (Room.hu hr)) (d_var (pv 4)) d_int) (dss_one (ds_ret (d_lc (own := [("k", 6)]) (ix := [6]) rfl sc__law_words.nd (di_rg1 rfl (zq29 Z) (da_cons (d_var (pv 1)) da_nil)) (blk_of N__law_words dq__law_words.scope rfl rfl (by decide +kernel)) (by decide) (fun s H C cl fp => (dg_name [6] sc__law_words.nd)) (fun s H C cl fp => dts_nil) (fun s H C cl fp => (d_ix (d_var (pv 3)) (d_op op_modD (d_op op_addD (d_var (pv 5)) (d_op op_mulD d_int (d_var (pv 6)))) d_int)))))) dss_nil)
      (dss_cons (ds_if (dt_cmp (op_eqDD (Room.hu hr)) (d_var (pv 4)) d_int) (dss_one (ds_ret (d_lc (own := [("k", 6)]) (ix := [6]) rfl sc__law_words.nd (di_rg1 rfl (zq29 Z) (da_cons (d_var (pv 1)) da_nil)) (blk_of N__law_words dq__law_words.scope rfl rfl (by decide +kernel)) (by decide) (fun s H C cl fp => (dg_name [6] sc__law_words.nd)) (fun s H C cl fp => dts_nil) (fun s H C cl fp => (d_op op_mulD (d_ix (d_var (pv 2)) (d_op op_modD (d_op op_addD (d_var (pv 5)) (d_op op_mulD d_int (d_var (pv 6)))) d_int)) (d_op op_addD d_int (d_op op_modD (d_var (pv 6)) d_int))))))) dss_nil)
      (dss_cons (ds_set (i := 7) sc__law_words.nd (d_join d_str (da_cons (d_lc (own := [("k", 6)]) (ix := [6]) rfl sc__law_words.nd (di_rg1 rfl (zq29 Z) (da_cons (d_call (G__law_draw.mono (by decide)) hr tk rfl (zq49 Z) F__law_draw.kp (BindD.pos F__law_draw 2 fun _ _ _ _ _ _ us hl => match us, hl with | [a0, a1], _ => by kernel_rfl) (af (da_cons (d_var (pv 0)) (da_cons d_int da_nil)))) da_nil)) (blk_of N__law_words dq__law_words.scope rfl rfl (by decide +kernel)) (by decide) (fun s H C cl fp => (dg_name [6] sc__law_words.nd)) (fun s H C cl fp => dts_nil) (fun s H C cl fp => (d_ix (d_var (pv 2)) (d_call (G__law_draw.mono (by decide)) hr takes0 rfl (zq49 Z) F__law_draw.kp (BindD.pos F__law_draw 2 fun _ _ _ _ _ _ us hl => match us, hl with | [a0, a1], _ => by kernel_rfl) (af (da_cons (d_var (pv 0)) (da_cons d_int da_nil))))))) da_nil)))
      (dss_cons (ds_set (i := 8) sc__law_words.nd (d_call (G__law_draw.mono (by decide)) hr tk rfl (zq49 Z) F__law_draw.kp (BindD.pos F__law_draw 2 fun _ _ _ _ _ _ us hl => match us, hl with | [a0, a1], _ => by kernel_rfl) (af (da_cons (d_var (pv 0)) (da_cons (d_op op_addD (d_callB call_lenDD rfl (zq11 Z) (by decide +kernel) (da_cons (d_var (pv 7)) da_nil)) d_int) da_nil)))))
      (dss_one (ds_ret (d_lc (own := [("k", 6)]) (ix := [6]) rfl sc__law_words.nd (di_rg1 rfl (zq29 Z) (da_cons (d_var (pv 1)) da_nil)) (blk_of N__law_words dq__law_words.scope rfl rfl (by decide +kernel)) (by decide) (fun s H C cl fp => (dg_name [6] sc__law_words.nd)) (fun s H C cl fp => dts_nil) (fun s H C cl fp => (d_op op_addD (d_op op_addD (d_sl (d_var (pv 7)) do_none (do_some (d_var (pv 8)))) (d_ix (d_var (pv 2)) (d_op op_modD (d_op op_addD (d_var (pv 5)) (d_op op_mulD d_int (d_var (pv 6)))) d_int))) (d_sl (d_var (pv 7)) (do_some (d_var (pv 8))) do_none))))))))))))))
theorem w__law_peak (Z : Zed K mg) (p__law_load : Pm P w K mg base 1 dq__law_load ["rides", "place"] (sp__law_load K)) (cdv : Value) (A : Around) (outer : List Env) (s : Shared) (H : Hp) (E : XK) (hr : Rm 1 (A.deeper (envOfC dq__law_peak.qual dq__law_peak.scope s.heap.objs.size (dq__law_peak.loc K) cdv))) :
    DSs (cxOf (L2.CX P w) P w K mg base N__law_peak dq__law_peak.qual dq__law_peak.scope (dq__law_peak.loc K) cdv A outer s H E) (fun c d _ H => E c d H) dq__law_peak.body (r__law_peak K) := by
  have tk : Takes (cxOf (L2.CX P w) P w K mg base N__law_peak dq__law_peak.qual dq__law_peak.scope (dq__law_peak.loc K) cdv A outer s H E) (fun c d _ H => E c d H) := takes_of rfl rfl rfl rfl
  obtain ⟨fd__law_load, F__law_load, G__law_load⟩ := p__law_load.ex
  exact (dss_one (ds_ret (d_callB (call_max2D rfl) rfl (zq30 Z) (by decide +kernel) (da_cons (d_op op_addD (d_lc (own := [("ride", 1)]) (ix := [1]) rfl sc__law_peak.nd (di_val (d_var (pv 0))) (blk_of N__law_peak dq__law_peak.scope rfl rfl (by decide +kernel)) (by decide) (fun s H C cl fp => (dg_name [1] sc__law_peak.nd)) (fun s H C cl fp => dts_nil) (fun s H C cl fp => (d_call (G__law_load.mono (by decide)) hr takes0 rfl (zq28 Z) F__law_load.kp (BindD.pos F__law_load 2 fun _ _ _ _ _ _ us hl => match us, hl with | [a0, a1], _ => by kernel_rfl) (af (da_cons (d_var (pv 0)) (da_cons (d_ix (d_var (pv 1)) d_int) da_nil)))))) (d_lst (da_cons d_int da_nil))) da_nil))))
theorem w__law_long_case (Z : Zed K mg) (p__law_draw : Pm P w K mg base 1 dq__law_draw ["pool", "many"] (sp__law_draw K)) (p__law_rides : Pm P w K mg base 3 dq__law_rides ["pool", "words", "high"] (sp__law_rides K)) (p__law_words : Pm P w K mg base 2 dq__law_words ["pool", "many"] (sp__law_words K)) (p__law_peak : Pm P w K mg base 2 dq__law_peak ["rides"] (sp__law_peak K)) (cdv : Value) (A : Around) (outer : List Env) (s : Shared) (H : Hp) (E : XK) (hr : Rm 3 (A.deeper (envOfC dq__law_long_case.qual dq__law_long_case.scope s.heap.objs.size (dq__law_long_case.loc K) cdv))) :
    DSs (cxOf (L2.CX P w) P w K mg base N__law_long_case dq__law_long_case.qual dq__law_long_case.scope (dq__law_long_case.loc K) cdv A outer s H E) (fun c d _ H => E c d H) dq__law_long_case.body (r__law_long_case K) := by
  have tk : Takes (cxOf (L2.CX P w) P w K mg base N__law_long_case dq__law_long_case.qual dq__law_long_case.scope (dq__law_long_case.loc K) cdv A outer s H E) (fun c d _ H => E c d H) := takes_of rfl rfl rfl rfl
  obtain ⟨fd__law_draw, F__law_draw, G__law_draw⟩ := p__law_draw.ex
  obtain ⟨fd__law_rides, F__law_rides, G__law_rides⟩ := p__law_rides.ex
  obtain ⟨fd__law_words, F__law_words, G__law_words⟩ := p__law_words.ex
  obtain ⟨fd__law_peak, F__law_peak, G__law_peak⟩ := p__law_peak.ex
  exact (dss_cons (ds_par (i := 1) (j := 2) rfl sc__law_long_case.nd (da_cons (d_call (G__law_draw.mono (by decide)) hr tk rfl (zq49 Z) F__law_draw.kp (BindD.pos F__law_draw 2 fun _ _ _ _ _ _ us hl => match us, hl with | [a0, a1], _ => by kernel_rfl) (af (da_cons (d_var (pv 0)) (da_cons d_int da_nil)))) (da_cons (d_op op_addD d_int (d_call (G__law_draw.mono (by decide)) hr tk rfl (zq49 Z) F__law_draw.kp (BindD.pos F__law_draw 2 fun _ _ _ _ _ _ us hl => match us, hl with | [a0, a1], _ => by kernel_rfl) (af (da_cons (d_var (pv 0)) (da_cons d_int da_nil))))) da_nil)))
      (dss_cons (ds_set (i := 3) sc__law_long_case.nd (d_call (G__law_rides.mono (by decide)) hr tk rfl (zq52 Z) F__law_rides.kp (BindD.pos F__law_rides 3 fun _ _ _ _ _ _ us hl => match us, hl with | [a0, a1, a2], _ => by kernel_rfl) (af (da_cons (d_var (pv 0)) (da_cons (d_call (G__law_words.mono (by decide)) hr tk rfl (zq51 Z) F__law_words.kp (BindD.pos F__law_words 2 fun _ _ _ _ _ _ us hl => match us, hl with | [a0, a1], _ => by kernel_rfl) (af (da_cons (d_var (pv 0)) (da_cons (d_var (pv 1)) da_nil)))) (da_cons (d_var (pv 2)) da_nil))))))
      (dss_cons (ds_set (i := 4) sc__law_long_case.nd (d_op op_addD (d_call (G__law_peak.mono (by decide)) hr tk rfl (zq53 Z) F__law_peak.kp (BindD.pos F__law_peak 1 fun _ _ _ _ _ _ us hl => match us, hl with | [a0], _ => by kernel_rfl) (af (da_cons (d_var (pv 3)) da_nil))) (d_ix (d_lst (da_cons d_int (da_cons d_int (da_cons d_int (da_cons d_int da_nil))))) (d_call (G__law_draw.mono (by decide)) hr tk rfl (zq49 Z) F__law_draw.kp (BindD.pos F__law_draw 2 fun _ _ _ _ _ _ us hl => match us, hl with | [a0, a1], _ => by kernel_rfl) (af (da_cons (d_var (pv 0)) (da_cons d_int da_nil)))))))
      (dss_cons (ds_if (dt_cmp (op_eqDD (Room.hu hr)) (d_call (G__law_draw.mono (by decide)) hr tk rfl (zq49 Z) F__law_draw.kp (BindD.pos F__law_draw 2 fun _ _ _ _ _ _ us hl => match us, hl with | [a0, a1], _ => by kernel_rfl) (af (da_cons (d_var (pv 0)) (da_cons d_int da_nil)))) d_int) (dss_one (ds_set (i := 4) sc__law_long_case.nd (d_op op_addD d_int (d_call (G__law_draw.mono (by decide)) hr tk rfl (zq49 Z) F__law_draw.kp (BindD.pos F__law_draw 2 fun _ _ _ _ _ _ us hl => match us, hl with | [a0, a1], _ => by kernel_rfl) (af (da_cons (d_var (pv 0)) (da_cons d_int da_nil))))))) dss_nil)
      (dss_one (ds_ret (d_lst (da_cons (d_callB (call_max2D rfl) rfl (zq30 Z) (by decide +kernel) (da_cons d_int (da_cons (d_callB (call_min2D rfl) rfl (zq47 Z) (by decide +kernel) (da_cons d_int (da_cons (d_var (pv 4)) da_nil))) da_nil))) (da_cons (d_var (pv 3)) da_nil)))))))))
theorem w__law_right (Z : Zed K mg) (p__law_long_case : Pm P w K mg base 4 dq__law_long_case ["pool"] (sp__law_long_case K)) (p__law_told : Pm P w K mg base 7 dq__law_told ["width", "rides"] (sp__law_told K)) (p__law_rides : Pm P w K mg base 3 dq__law_rides ["pool", "words", "high"] (sp__law_rides K)) (p__law_draw : Pm P w K mg base 1 dq__law_draw ["pool", "many"] (sp__law_draw K)) (cdv : Value) (A : Around) (outer : List Env) (s : Shared) (H : Hp) (E : XK) (hr : Rm 7 (A.deeper (envOfC dq__law_right.qual dq__law_right.scope s.heap.objs.size (dq__law_right.loc K) cdv))) :
    DSs (cxOf (L2.CX P w) P w K mg base N__law_right dq__law_right.qual dq__law_right.scope (dq__law_right.loc K) cdv A outer s H E) (fun c d _ H => E c d H) dq__law_right.body (r__law_right K) := by
  have tk : Takes (cxOf (L2.CX P w) P w K mg base N__law_right dq__law_right.qual dq__law_right.scope (dq__law_right.loc K) cdv A outer s H E) (fun c d _ H => E c d H) := takes_of rfl rfl rfl rfl
  obtain ⟨fd__law_long_case, F__law_long_case, G__law_long_case⟩ := p__law_long_case.ex
  obtain ⟨fd__law_told, F__law_told, G__law_told⟩ := p__law_told.ex
  obtain ⟨fd__law_rides, F__law_rides, G__law_rides⟩ := p__law_rides.ex
  obtain ⟨fd__law_draw, F__law_draw, G__law_draw⟩ := p__law_draw.ex
  exact (dss_cons (ds_asg (ix := [1, 2]) (d_call (G__law_long_case.mono (by decide)) hr tk rfl (zq54 Z) F__law_long_case.kp (BindD.pos F__law_long_case 1 fun _ _ _ _ _ _ us hl => match us, hl with | [a0], _ => by kernel_rfl) (af (da_cons (d_var (pv 0)) da_nil))) (dg_tup rfl (dgs_cons (dg_name [1, 2] sc__law_right.nd) (dgs_cons (dg_name [1, 2] sc__law_right.nd) dgs_nil))))
      (dss_cons (ds_for (passes_of rfl) rfl (di_val (d_lst (da_cons (d_var (pv 1)) (da_cons (d_op op_addD d_int (d_op op_modD (d_var (pv 1)) d_int)) (da_cons (d_callB (call_max2D rfl) rfl (zq30 Z) (by decide +kernel) (da_cons d_int (da_cons (d_op op_subD (d_var (pv 1)) d_int) da_nil))) (da_cons d_int (da_cons d_int (da_cons (d_var (pv 1)) da_nil)))))))) (dg_name [3] sc__law_right.nd) (dss_one (ds_if (dt_w (dw_or (dt_not (dt_val (d_call (G__law_told.mono (by decide)) hr tk rfl (zq46 Z) F__law_told.kp (BindD.pos F__law_told 2 fun _ _ _ _ _ _ us hl => match us, hl with | [a0, a1], _ => by kernel_rfl) (af (da_cons (d_var (pv 3)) (da_cons (d_var (pv 2)) da_nil)))))) (dw_or (dt_not (dt_val (d_call (G__law_told.mono (by decide)) hr tk rfl (zq46 Z) F__law_told.kp (BindD.pos F__law_told 2 fun _ _ _ _ _ _ us hl => match us, hl with | [a0, a1], _ => by kernel_rfl) (af (da_cons (d_var (pv 3)) (da_cons (d_sl (d_var (pv 2)) (do_some d_int) do_none) da_nil)))))) (dw_or1 (dt_not (dt_val (d_call (G__law_told.mono (by decide)) hr tk rfl (zq46 Z) F__law_told.kp (BindD.pos F__law_told 2 fun _ _ _ _ _ _ us hl => match us, hl with | [a0, a1], _ => by kernel_rfl) (af (da_cons (d_var (pv 3)) (da_cons (d_sl (d_var (pv 2)) do_none (do_some d_int)) da_nil)))))))))) (dss_one (ds_ret d_bl)) dss_nil)))
      (dss_cons (ds_set (i := 4) sc__law_right.nd (d_call (G__law_rides.mono (by decide)) hr tk rfl (zq52 Z) F__law_rides.kp (BindD.pos F__law_rides 3 fun _ _ _ _ _ _ us hl => match us, hl with | [a0, a1, a2], _ => by kernel_rfl) (af (da_cons (d_var (pv 0)) (da_cons (d_lc (own := [("ride", 5)]) (ix := [5]) rfl sc__law_right.nd (di_val (d_var (pv 2))) (blk_of N__law_right dq__law_right.scope rfl rfl (by decide +kernel)) (by decide) (fun s H C cl fp => (dg_name [5] sc__law_right.nd)) (fun s H C cl fp => dts_nil) (fun s H C cl fp => (d_ix (d_var (pv 5)) d_int))) (da_cons (d_op op_addD d_int (d_call (G__law_draw.mono (by decide)) hr tk rfl (zq49 Z) F__law_draw.kp (BindD.pos F__law_draw 2 fun _ _ _ _ _ _ us hl => match us, hl with | [a0, a1], _ => by kernel_rfl) (af (da_cons (d_var (pv 0)) (da_cons d_int da_nil))))) da_nil))))))
      (dss_one (ds_ret (d_callB (call_allD rfl) rfl (zq2 Z) (by decide +kernel) (da_cons (d_lc (own := [("each", 6)]) (ix := [6]) rfl sc__law_right.nd (di_val (d_lst (da_cons (d_var (pv 4)) (da_cons (d_var (pv 2)) (da_cons (d_var (pv 4)) (da_cons (d_var (pv 2)) da_nil)))))) (blk_of N__law_right dq__law_right.scope rfl rfl (by decide +kernel)) (by decide) (fun s H C cl fp => (dg_name [6] sc__law_right.nd)) (fun s H C cl fp => dts_nil) (fun s H C cl fp => (d_call (G__law_told.mono (by decide)) hr takes0 rfl (zq46 Z) F__law_told.kp (BindD.pos F__law_told 2 fun _ _ _ _ _ _ us hl => match us, hl with | [a0, a1], _ => by kernel_rfl) (af (da_cons (d_var (pv 1)) (da_cons (d_var (pv 6)) da_nil)))))) da_nil)))))))
theorem w__law_pool (Z : Zed K mg) (cdv : Value) (A : Around) (outer : List Env) (s : Shared) (H : Hp) (E : XK) (hr : Rm 0 (A.deeper (envOfC dq__law_pool.qual dq__law_pool.scope s.heap.objs.size (dq__law_pool.loc K) cdv))) :
    DSs (cxOf (L2.CX P w) P w K mg base N__law_pool dq__law_pool.qual dq__law_pool.scope (dq__law_pool.loc K) cdv A outer s H E) (fun c d _ H => E c d H) dq__law_pool.body (r__law_pool K) := by
  have tk : Takes (cxOf (L2.CX P w) P w K mg base N__law_pool dq__law_pool.qual dq__law_pool.scope (dq__law_pool.loc K) cdv A outer s H E) (fun c d _ H => E c d H) := takes_of rfl rfl rfl rfl
  exact (dss_cons (ds_set (i := 1) sc__law_pool.nd d_int)
      (dss_cons (ds_if (dt_w (dw_or (dt_cmp op_ltD (d_var (pv 0)) d_int) (dw_or1 (dt_cmp op_geD (d_var (pv 0)) (d_op op_powD d_int d_int))))) (dss_one (ds_set (i := 1) sc__law_pool.nd (d_callB call_absD rfl (zq55 Z) (by decide +kernel) (da_cons (d_var (pv 0)) da_nil)))) dss_nil)
      (dss_one (ds_ret (d_newL (da_cons (d_op op_modD (d_var (pv 0)) d_int) (da_cons (d_var (pv 1)) (da_cons d_int da_nil))))))))
theorem w__law_cell (Z : Zed K mg) (cdv : Value) (A : Around) (outer : List Env) (s : Shared) (H : Hp) (E : XK) (hr : Rm 0 (A.deeper (envOfC dq__law_cell.qual dq__law_cell.scope s.heap.objs.size (dq__law_cell.loc K) cdv))) :
    DSs (cxOf (L2.CX P w) P w K mg base N__law_cell dq__law_cell.qual dq__law_cell.scope (dq__law_cell.loc K) cdv A outer s H E) (fun c d _ H => E c d H) dq__law_cell.body (r__law_cell K) := by
  have tk : Takes (cxOf (L2.CX P w) P w K mg base N__law_cell dq__law_cell.qual dq__law_cell.scope (dq__law_cell.loc K) cdv A outer s H E) (fun c d _ H => E c d H) := takes_of rfl rfl rfl rfl
  exact (dss_cons (ds_if (dt_cmp op_ltD (d_var (pv 1)) (d_callB call_lenDD rfl (zq11 Z) (by decide +kernel) (da_cons (d_var (pv 0)) da_nil))) (dss_one (ds_ret (d_ix (d_var (pv 0)) (d_var (pv 1))))) dss_nil)
      (dss_cons (ds_set (i := 2) sc__law_cell.nd (d_op op_modD (d_op op_mulD d_int (d_op op_addD (d_op op_addD (d_op op_mulD (d_var (pv 1)) (d_var (pv 1))) (d_op op_mulD d_int (d_var (pv 1)))) d_int)) d_int))
      (dss_cons (ds_for (passes_of rfl) rfl (di_val (d_sl (d_var (pv 0)) do_none (do_some d_int))) (dg_name [3] sc__law_cell.nd) (dss_one (ds_set (i := 2) sc__law_cell.nd (d_op op_modD (d_op op_addD (d_op op_mulD (d_var (pv 2)) d_int) (d_var (pv 3))) d_int))))
      (dss_one (ds_ret (d_var (pv 2)))))))
theorem w_law (Z : Zed K mg) (p__law_told : Pm P w K mg base 7 dq__law_told ["width", "rides"] (sp__law_told K)) (p_count : Pm P w K mg base 4 dq_count ["line"] (sp_count K)) (p_Line___init__ : Pm P w K mg base 5 dq_Line___init__ ["self", "seats", "trips"] (sp_Line___init__ K)) (p__law_product : Pm P w K mg base 2 dq__law_product ["width", "rides"] (sp__law_product K)) (p__law_right : Pm P w K mg base 8 dq__law_right ["pool"] (sp__law_right K)) (p__law_pool : Pm P w K mg base 1 dq__law_pool ["cell"] (sp__law_pool K)) (p__law_cell : Pm P w K mg base 1 dq__law_cell ["script", "k"] (sp__law_cell K)) (cdv : Value) (A : Around) (outer : List Env) (s : Shared) (H : Hp) (E : XK) (hr : Rm 8 (A.deeper (envOfC dq_law.qual dq_law.scope s.heap.objs.size (dq_law.loc K) cdv))) :
    DSs (cxOf (L2.CX P w) P w K mg base N_law dq_law.qual dq_law.scope (dq_law.loc K) cdv A outer s H E) (fun c d _ H => E c d H) dq_law.body (r_law K) := by
  have tk : Takes (cxOf (L2.CX P w) P w K mg base N_law dq_law.qual dq_law.scope (dq_law.loc K) cdv A outer s H E) (fun c d _ H => E c d H) := takes_of rfl rfl rfl rfl
  obtain ⟨fd__law_told, F__law_told, G__law_told⟩ := p__law_told.ex
  obtain ⟨fd_count, F_count, G_count⟩ := p_count.ex
  obtain ⟨fd_Line___init__, F_Line___init__, G_Line___init__⟩ := p_Line___init__.ex
  obtain ⟨fd__law_product, F__law_product, G__law_product⟩ := p__law_product.ex
  obtain ⟨fd__law_right, F__law_right, G__law_right⟩ := p__law_right.ex
  obtain ⟨fd__law_pool, F__law_pool, G__law_pool⟩ := p__law_pool.ex
  obtain ⟨fd__law_cell, F__law_cell, G__law_cell⟩ := p__law_cell.ex
  exact (dss_cons (ds_set (i := 1) sc_law.nd d_str)
      (dss_cons (ds_set (i := 2) sc_law.nd (d_newL (da_cons (d_callTy call_tupleD rfl (zq0 Z) (by decide +kernel) (da_cons (d_lc (own := [("k", 3), ("letter", 4)]) (ix := [3, 4]) rfl sc_law.nd (di_enS rfl (zq1 Z) (da_cons (d_var (pv 1)) da_nil)) (blk_of N_law dq_law.scope rfl rfl (by decide +kernel)) (by decide) (fun s H C cl fp => (dg_tup rfl (dgs_cons (dg_name [3, 4] sc_law.nd) (dgs_cons (dg_name [3, 4] sc_law.nd) dgs_nil)))) (fun s H C cl fp => dts_nil) (fun s H C cl fp => (d_tup (da_cons (d_var (pv 4)) (da_cons (d_var (pv 3)) (da_cons (d_op op_addD (d_var (pv 3)) d_int) da_nil)))))) da_nil)) da_nil)))
      (dss_cons (ds_expr (d_app (d_var (pv 2)) (da_cons (d_callTy call_tupleD rfl (zq0 Z) (by decide +kernel) (da_cons (d_lc (own := [("letter", 4)]) (ix := [4]) rfl sc_law.nd (di_val (d_var (pv 1))) (blk_of N_law dq_law.scope rfl rfl (by decide +kernel)) (by decide) (fun s H C cl fp => (dg_name [4] sc_law.nd)) (fun s H C cl fp => dts_nil) (fun s H C cl fp => (d_tup (da_cons (d_var (pv 4)) (da_cons d_int (da_cons d_int da_nil)))))) da_nil)) da_nil)))
      (dss_cons (ds_expr (d_app (d_var (pv 2)) (da_cons (d_callTy call_tupleD rfl (zq0 Z) (by decide +kernel) (da_cons (d_lc (own := [("k", 3), ("letter", 4)]) (ix := [3, 4]) rfl sc_law.nd (di_enS rfl (zq1 Z) (da_cons (d_var (pv 1)) da_nil)) (blk_of N_law dq_law.scope rfl rfl (by decide +kernel)) (by decide) (fun s H C cl fp => (dg_tup rfl (dgs_cons (dg_name [3, 4] sc_law.nd) (dgs_cons (dg_name [3, 4] sc_law.nd) dgs_nil)))) (fun s H C cl fp => dts_nil) (fun s H C cl fp => (d_tup (da_cons (d_var (pv 4)) (da_cons (d_op op_subD d_int (d_var (pv 3))) (da_cons (d_op op_addD (d_op op_powD d_int d_int) (d_var (pv 3))) da_nil)))))) da_nil)) da_nil)))
      (dss_cons (ds_expr (d_app (d_var (pv 2)) (da_cons (d_tup (da_cons (d_tup (da_cons d_str (da_cons (d_op op_powD d_int d_int) (da_cons (d_op op_addD (d_op op_powD d_int d_int) d_int) da_nil)))) (da_cons (d_tup (da_cons d_str (da_cons d_int (da_cons (d_op op_addD (d_op op_powD d_int d_int) d_int) da_nil)))) (da_cons (d_tup (da_cons d_str (da_cons (d_op op_subD (d_op op_powD d_int d_int) d_int) (da_cons (d_op op_powD d_int d_int) da_nil)))) da_nil)))) da_nil)))
      (dss_cons (ds_for (passes_of rfl) rfl (di_val (d_lst (da_cons d_int (da_cons d_int (da_cons d_int (da_cons d_int (da_cons d_int da_nil))))))) (dg_name [5] sc_law.nd) (dss_one (ds_if (dt_w (dw_or (dt_not (dt_val (d_call (G__law_told.mono (by decide)) hr tk rfl (zq46 Z) F__law_told.kp (BindD.pos F__law_told 2 fun _ _ _ _ _ _ us hl => match us, hl with | [a0, a1], _ => by kernel_rfl) (af (da_cons (d_var (pv 5)) (da_cons (d_tup da_nil) da_nil)))))) (dw_or1 (dt_not (dt_val (d_callB (call_allD rfl) rfl (zq2 Z) (by decide +kernel) (da_cons (d_lc (own := [("rides", 6)]) (ix := [6]) rfl sc_law.nd (di_val (d_var (pv 2))) (blk_of N_law dq_law.scope rfl rfl (by decide +kernel)) (by decide) (fun s H C cl fp => (dg_name [6] sc_law.nd)) (fun s H C cl fp => dts_nil) (fun s H C cl fp => (d_call (G__law_told.mono (by decide)) hr takes0 rfl (zq46 Z) F__law_told.kp (BindD.pos F__law_told 2 fun _ _ _ _ _ _ us hl => match us, hl with | [a0, a1], _ => by kernel_rfl) (af (da_cons (d_var (pv 5)) (da_cons (d_var (pv 6)) da_nil)))))) da_nil))))))) (dss_one (ds_ret d_bl)) dss_nil)))
      (dss_cons (ds_if (dt_w (dw_or (dt_cmp (op_neDD (Room.hu hr)) (d_call (G_count.mono (by decide)) hr tk rfl (zq41 Z) F_count.kp (BindD.pos F_count 1 fun _ _ _ _ _ _ us hl => match us, hl with | [a0], _ => by kernel_rfl) (af (da_cons (d_make false (zq25 Z) (G_Line___init__.mono (by decide)) hr tk (BindD.dfl (dd := []) F_Line___init__ 3 [] 1 (by simp [Dq.dvs, dq_Line___init__]) (fun A H => .nil) fun _ _ _ _ _ _ _ us ws its hl hw hi => match us, ws, its, hl, hw, hi with | [a0, a1, a2], [], [c0], _, _, _ => ⟨_, rfl, by kernel_rfl⟩) (d_gref rfl (zq26 Z)) (af (da_cons d_int (da_cons (d_ix (d_var (pv 2)) d_int) da_nil)))) da_nil))) (d_op op_powD d_int d_int)) (dw_or1 (dt_cmp (op_neDD (Room.hu hr)) (d_call (G_count.mono (by decide)) hr tk rfl (zq41 Z) F_count.kp (BindD.pos F_count 1 fun _ _ _ _ _ _ us hl => match us, hl with | [a0], _ => by kernel_rfl) (af (da_cons (d_make false (zq25 Z) (G_Line___init__.mono (by decide)) hr tk (BindD.dfl (dd := []) F_Line___init__ 3 [] 1 (by simp [Dq.dvs, dq_Line___init__]) (fun A H => .nil) fun _ _ _ _ _ _ _ us ws its hl hw hi => match us, ws, its, hl, hw, hi with | [a0, a1, a2], [], [c0], _, _, _ => ⟨_, rfl, by kernel_rfl⟩) (d_gref rfl (zq26 Z)) (af (da_cons d_int (da_cons (d_sl (d_ix (d_var (pv 2)) d_int) do_none (do_some d_int)) da_nil)))) da_nil))) (d_call (G__law_product.mono (by decide)) hr tk rfl (zq32 Z) F__law_product.kp (BindD.pos F__law_product 2 fun _ _ _ _ _ _ us hl => match us, hl with | [a0, a1], _ => by kernel_rfl) (af (da_cons d_int (da_cons (d_sl (d_ix (d_var (pv 2)) d_int) do_none (do_some d_int)) da_nil)))))))) (dss_one (ds_ret d_bl)) dss_nil)
      (dss_one (ds_ret (d_callB (call_allD rfl) rfl (zq2 Z) (by decide +kernel) (da_cons (d_lc (own := [("k", 3)]) (ix := [3]) rfl sc_law.nd (di_rg1 rfl (zq29 Z) (da_cons (d_callB (call_max2D rfl) rfl (zq30 Z) (by decide +kernel) (da_cons d_int (da_cons (d_callB (call_min2D rfl) rfl (zq47 Z) (by decide +kernel) (da_cons (d_callB call_lenDD rfl (zq11 Z) (by decide +kernel) (da_cons (d_var (pv 0)) da_nil)) (da_cons d_int da_nil))) da_nil))) da_nil)) (blk_of N_law dq_law.scope rfl rfl (by decide +kernel)) (by decide) (fun s H C cl fp => (dg_name [3] sc_law.nd)) (fun s H C cl fp => dts_nil) (fun s H C cl fp => (d_call (G__law_right.mono (by decide)) hr takes0 rfl (zq58 Z) F__law_right.kp (BindD.pos F__law_right 1 fun _ _ _ _ _ _ us hl => match us, hl with | [a0], _ => by kernel_rfl) (af (da_cons (d_call (G__law_pool.mono (by decide)) hr takes0 rfl (zq57 Z) F__law_pool.kp (BindD.pos F__law_pool 1 fun _ _ _ _ _ _ us hl => match us, hl with | [a0], _ => by kernel_rfl) (af (da_cons (d_call (G__law_cell.mono (by decide)) hr takes0 rfl (zq56 Z) F__law_cell.kp (BindD.pos F__law_cell 2 fun _ _ _ _ _ _ us hl => match us, hl with | [a0, a1], _ => by kernel_rfl) (af (da_cons (d_var (pv 0)) (da_cons (d_var (pv 3)) da_nil)))) da_nil))) da_nil))))) da_nil)))))))))))
end
/-! ### the plain laws -/
/-! ### what the plain laws share -/
theorem okV_str {K : PySem.W.Frag} {x : Str} (h : x.length ≤ sizeLine) : okV K (.str x) := ⟨trivial, fun y e => by cases e; exact h⟩
theorem cutS_len {z : Str} {lo hi : Option Int} : (cutS z lo hi).length ≤ z.length := by
  unfold cutS
  simp [Str.length]
  omega
theorem app_len {x y : Str} : (x ++ y).length = x.length + y.length := by
  rw [str_len, str_len, str_len, str_app, List.length_append]
theorem rpt_tl (x : Str) (n : Int) : (rptS x n).cps.toList = (List.replicate n.toNat x.cps.toList).flatten := by
  unfold rptS; simp
theorem rpt_len {x : Str} {n : Int} : (rptS x n).length = n.toNat * x.length := by
  rw [str_len, rpt_tl, List.length_flatten, List.map_replicate, List.sum_replicate_nat, ← str_len]
theorem at_some {l : List Nat} {i : Int} (h0 : 0 ≤ i) (h1 : i.toNat < l.length) : ∃ c, atI l i = some c := by
  have := atI_nat (List.getElem?_eq_getElem h1)
  rw [Int.toNat_of_nonneg h0] at this
  exact ⟨_, this⟩
/-- the law's last row: all numbers of the script, at least two -/
theorem law_all {K : PySem.W.Frag} {ns : List Int} {g : G} {m : Mem} {KK : List Dat → Mem → Prop} {kx j : Nat} (hl : ns.length ≤ 63) (hj : j ≤ 64) (h0 : ∀ c, slot (put g kx c) 0 = some (.p (.scr (ns.map .int)))) (hk : ∀ c, slot (put g kx c) kx = c)
    (fin : ∀ f, KK (List.replicate j (.bl true)) (f :: m)) : lcW (rgName kx) rYes (rCallG 1 (sp__law_right K) (fun cs _ => cs) [] (rA1 (rCons (rCallG 1 (sp__law_pool K) (fun cs _ => cs) [] (rA1 (rCons (rCallG 2 (sp__law_cell K) (fun cs _ => cs) [] (rA1 (rCons (rVar 0) (rCons (rVar kx) rNil)))) rNil))) rNil)))
      (fun _ => True) g KK (rngD 0 j) [] ([] :: m) := by
  refine lcW_go (fun i acc m' => (∃ f, m' = f :: m) ∧ acc = List.replicate i (.bl true)) (by rw [rngD_len, sizeLine_eq]; omega) ⟨⟨[], rfl⟩, rfl⟩ (fun _ _ _ _ => trivial) ?_ ?_
  · rintro i d acc m' hd ha ⟨⟨f, rfl⟩, rfl⟩ Kc hK
    have hij : i < j := by
      have := (List.getElem?_eq_some_iff.mp hd).1
      rwa [rngD_len] at this
    obtain rfl : d = .int i := by
      unfold rngD at hd
      rw [List.getElem?_map, List.getElem?_range hij] at hd
      cases hd
      exact congrArg Dat.int (Int.zero_add _)
    simp only [rTe, rTr, rOp, rUn, rVar, rC, rSet, rSeq, rRet, rRetN, rIfS, rPass, rDrop, rAsg, rNil, rCons, rTup, rLst, rCB, rAnd, rOr, rNot, rAndV, rOrV, rIf, rNotV, rgName, rgTup, rgCons, rgNil, rgSub, rCallG, callK, rA0, rA1, rAK0, rAK, rFld, rIt, rLc, rLcK, rPar, rPar3, entry, shc, wipeG, allDat, datsOf, slot, put, view_p, List.nil_append, List.cons_append, List.map_cons, List.map_nil, Option.map_some, true_and, and_true, if_true, Bool.false_eq_true, if_false, addF_ii, addF_ss, addF_ll, addF_tt, iF_ii, mulF_ii, mulF_si, mulF_li, eqF_ii, eqF_ss, eqF_bb, neF_ii, neF_ss, neF_bb, cmF_ii, cmF_ss, at0, at1, at2, ixF_l, ixF_t, ixF_c, ixF_s, lenF_s, lenF_l, lenF_t, lenF_c, absF_i, maxF_ii, minF_ii, divmodF_ii, isF_n, isF_b, blC_b, blD_b, truD_b, truD_i, truD_n, truD_l, truD_t, c1F_1, c2F_2, starD_t, starD_l, isiF_eq, isiCF_eq, h0, hk]
    refine ⟨rfl, ns, i, rfl, hl, by omega, by omega, fun v => ⟨rfl, v, f, m, rfl, rfl, fun a s d => ⟨rfl, 0, f.length, a, s, d, 0, rfl, fget_push f _, fun s' d' c' => hK _ _ ⟨⟨_, rfl⟩, ?_⟩⟩⟩⟩
    rw [List.replicate_succ']
  · rintro acc m' ha ⟨⟨f, rfl⟩, rfl⟩
    rw [rngD_len]
    exact fin f
/-- .. with what the law's own frame holds -/
theorem law_all_m {K : PySem.W.Frag} {ns : List Int} {g : G} {m : Mem} {KK : List Dat → Mem → Prop} {kx j : Nat} {f0 : List (Addr × Lo)} (hl : ns.length ≤ 63) (hj : j ≤ 64) (h0 : ∀ c, slot (put g kx c) 0 = some (.p (.scr (ns.map .int)))) (hk : ∀ c, slot (put g kx c) kx = c)
    (fin : ∀ f, KK (List.replicate j (.bl true)) (f :: m)) : lcW (rgName kx) rYes (rCallG 1 (sp__law_right K) (fun cs _ => cs) [] (rA1 (rCons (rCallG 1 (sp__law_pool K) (fun cs _ => cs) [] (rA1 (rCons (rCallG 2 (sp__law_cell K) (fun cs _ => cs) [] (rA1 (rCons (rVar 0) (rCons (rVar kx) rNil)))) rNil))) rNil)))
      (fun _ => True) g KK (rngD 0 j) [] (f0 :: m) := by
  refine lcW_go (fun i acc m' => (∃ f, m' = f :: m) ∧ acc = List.replicate i (.bl true)) (by rw [rngD_len, sizeLine_eq]; omega) ⟨⟨f0, rfl⟩, rfl⟩ (fun _ _ _ _ => trivial) ?_ ?_
  · rintro i d acc m' hd ha ⟨⟨f, rfl⟩, rfl⟩ Kc hK
    have hij : i < j := by
      have := (List.getElem?_eq_some_iff.mp hd).1
      rwa [rngD_len] at this
    obtain rfl : d = .int i := by
      unfold rngD at hd
      rw [List.getElem?_map, List.getElem?_range hij] at hd
      cases hd
      exact congrArg Dat.int (Int.zero_add _)
    simp only [rTe, rTr, rOp, rUn, rVar, rC, rSet, rSeq, rRet, rRetN, rIfS, rPass, rDrop, rAsg, rNil, rCons, rTup, rLst, rCB, rAnd, rOr, rNot, rAndV, rOrV, rIf, rNotV, rgName, rgTup, rgCons, rgNil, rgSub, rCallG, callK, rA0, rA1, rAK0, rAK, rFld, rIt, rLc, rLcK, rPar, rPar3, entry, shc, wipeG, allDat, datsOf, slot, put, view_p, List.nil_append, List.cons_append, List.map_cons, List.map_nil, Option.map_some, true_and, and_true, if_true, Bool.false_eq_true, if_false, addF_ii, addF_ss, addF_ll, addF_tt, iF_ii, mulF_ii, mulF_si, mulF_li, eqF_ii, eqF_ss, eqF_bb, neF_ii, neF_ss, neF_bb, cmF_ii, cmF_ss, at0, at1, at2, ixF_l, ixF_t, ixF_c, ixF_s, lenF_s, lenF_l, lenF_t, lenF_c, absF_i, maxF_ii, minF_ii, divmodF_ii, isF_n, isF_b, blC_b, blD_b, truD_b, truD_i, truD_n, truD_l, truD_t, c1F_1, c2F_2, starD_t, starD_l, isiF_eq, isiCF_eq, h0, hk]
    refine ⟨rfl, ns, i, rfl, hl, by omega, by omega, fun v => ⟨rfl, v, f, m, rfl, rfl, fun a s d => ⟨rfl, 0, f.length, a, s, d, 0, rfl, fget_push f _, fun s' d' c' => hK _ _ ⟨⟨_, rfl⟩, ?_⟩⟩⟩⟩
    rw [List.replicate_succ']
  · rintro acc m' ha ⟨⟨f, rfl⟩, rfl⟩
    rw [rngD_len]
    exact fin f
theorem law_range {n : Nat} {c : Int} (hc : c ≤ 60) : ((-2 ^ 62 ≤ (if (if c < (n : Nat) then c else (n : Nat)) > 2 then if c < (n : Nat) then c else (n : Nat) else 2)) ∧ (if (if c < (n : Nat) then c else (n : Nat)) > 2 then if c < (n : Nat) then c else (n : Nat) else 2) < 2 ^ 62) ∧
    (if (if c < (n : Nat) then c else (n : Nat)) > 2 then if c < (n : Nat) then c else (n : Nat) else 2).toNat ≤ 64 := by
  have e62 : (2 : Int) ^ 62 = 4611686018427387904 := by decide
  rw [e62]
  split <;> split at * <;> omega
theorem all_true {j : Nat} {KK : Dat → Prop} (h : KK (.bl true)) : allF (.lst (List.replicate j (.bl true))) KK := by
  have e : List.replicate j (Dat.bl true) = (List.replicate j true).map Dat.bl := by rw [List.map_replicate]
  rw [e]
  refine allF_bls ?_
  rw [show (List.replicate j true).all id = true from List.all_eq_true.mpr fun b hb => List.eq_of_mem_replicate hb]
  exact h
def tpOf : Dat → Tp
  | .tup [.str x, .int s, .int e] => (x, s, e)
  | _ => (Str.empty, 0, 0)
theorem tpOf_tp (t : Tp) : tpOf (tpD t) = t := rfl
theorem tps_of (ts : List Tp) : (ts.map tpD).map tpOf = ts := by
  rw [List.map_map]
  exact List.map_id' ts
theorem size_1000 {n : Nat} (h : n ≤ 1000) : 0 + n ≤ sizeLine := by rw [sizeLine_eq]; omega
/-- a comprehension over trips with a test -/
theorem lc_tp {rg : RG} {rt : RT} {re : RE} {gw : G} {KK : List Dat → Mem → Prop} {m : Mem} (q : Tp → Bool) (f : Tp → Dat) (ts : List Tp) (hl : ts.length ≤ 1000)
    (step : ∀ t ∈ ts, ∀ Kt : G → Bool → Mem → Prop, (∀ g1, (∀ Kc : Cv → Mem → Prop, (q t = true → Kc (.p (f t)) m) → q t = true → re g1 m Kc KE0) → Kt g1 (q t) m) → rg (.p (tpD t)) gw m fun g1 m1 => rt g1 m1 (fun b m2 => Kt g1 b m2) KE0)
    (fin : KK ((ts.filter q).map f) m) : lcW rg rt re (fun _ => True) gw KK (ts.map tpD) [] m := by
  refine lcW_filter (fun d => q (tpOf d)) (fun d => f (tpOf d)) m trivial (ts.map tpD) [] (by rw [List.length_map]; exact size_1000 hl) (fun d hd Kt hk => ?_) ?_
  · obtain ⟨t, ht, rfl⟩ := List.mem_map.mp hd
    exact step t ht Kt hk
  · rw [List.nil_append, List.filter_map, List.map_map]
    exact fin
/-- .. without one -/
theorem lc_tpm {rg : RG} {re : RE} {gw : G} {KK : List Dat → Mem → Prop} {m : Mem} (f : Tp → Dat) (ts : List Tp) (hl : ts.length ≤ 1000)
    (step : ∀ t ∈ ts, ∀ Kc : Cv → Mem → Prop, Kc (.p (f t)) m → rg (.p (tpD t)) gw m fun g1 m1 => re g1 m1 Kc KE0)
    (fin : KK (ts.map f) m) : lcW rg rYes re (fun _ => True) gw KK (ts.map tpD) [] m := by
  refine lcW_map (fun d => f (tpOf d)) m trivial (ts.map tpD) [] (by rw [List.length_map]; exact size_1000 hl) (fun d hd Kc hk => ?_) ?_
  · obtain ⟨t, ht, rfl⟩ := List.mem_map.mp hd
    exact step t ht Kc hk
  · rw [List.nil_append, List.map_map]
    exact fin
/-- a comprehension over range(n) -/
theorem lc_rg {rg : RG} {re : RE} {gw : G} {KK : List Dat → Mem → Prop} {m : Mem} (f : Nat → Dat) (n : Nat) (hl : n ≤ 1000)
    (step : ∀ k < n, ∀ Kc : Cv → Mem → Prop, Kc (.p (f k)) m → rg (.p (.int (k : Nat))) gw m fun g1 m1 => re g1 m1 Kc KE0)
    (fin : KK ((List.range n).map f) m) : lcW rg rYes re (fun _ => True) gw KK (rngD 0 n) [] m := by
  refine lcW_map (fun d => match d with
    | .int j => f j.toNat
    | d => d) m trivial (rngD 0 n) [] (by rw [rngD_len]; exact size_1000 hl) (fun d hd Kc hk => ?_) ?_
  · unfold rngD at hd
    obtain ⟨k, hk', rfl⟩ := List.mem_map.mp hd
    have := List.mem_range.mp hk'
    have e : (0 : Int) + (k : Nat) = (k : Nat) := Int.zero_add _
    rw [e] at hk ⊢
    exact step k this Kc hk
  · rw [List.nil_append]
    have e : (rngD 0 n).map (fun d => match d with
        | .int j => f j.toNat
        | d => d) = (List.range n).map f := by
      unfold rngD
      rw [List.map_map]
      refine List.map_congr_left fun k _ => ?_
      show f ((0 : Int) + (k : Nat)).toNat = f k
      rw [Int.zero_add, Int.toNat_natCast]
    rw [e]; exact fin
theorem ix_nat {rs : List Tp} {k : Nat} {t : Tp} {K : Dat → Prop} (h : rs[k]? = some t) (q : K (tpD t)) : ixF (.lst (rs.map tpD)) (.int (k : Nat)) K := by
  refine ixF_lst (x := tpD t) (atI_nat ?_) q
  rw [List.getElem?_map, h]; rfl
theorem str_inj {a b : Str} (e : a.cps.toList = b.cps.toList) : a = b := by
  have := Array.toList_inj.mp e
  cases a; cases b
  simp only at this
  rw [this]
theorem lt_irr (x : List Nat) : ¬ x < x := List.lt_irrefl x
theorem valid_inj {ts : List Tp} (h : ts.Pairwise fun a b => a.1.cps.toList < b.1.cps.toList) {i j : Nat} {a b : Tp} (ha : ts[i]? = some a) (hb : ts[j]? = some b) (e : a.1 = b.1) : i = j := by
  obtain ⟨l1, e1⟩ := List.getElem?_eq_some_iff.mp ha
  obtain ⟨l2, e2⟩ := List.getElem?_eq_some_iff.mp hb
  rcases Nat.lt_trichotomy i j with q | q | q
  · have := List.pairwise_iff_getElem.mp h i j l1 l2 q
    rw [e1, e2, e] at this
    exact absurd this (lt_irr _)
  · exact q
  · have := List.pairwise_iff_getElem.mp h j i l2 l1 q
    rw [e1, e2, e] at this
    exact absurd this (lt_irr _)
/-- the rows of a line are one list alone -/
theorem rows_uniq {ts a b : List Tp} (h : ts.Pairwise fun a b => a.1.cps.toList < b.1.cps.toList) (ha : RowsOf ts a) (hb : RowsOf ts b) : a = b := by
  refine List.Perm.eq_of_pairwise (fun x y hx hy h1 h2 => ?_) ha.asc hb.asc (ha.perm.trans hb.perm.symm)
  have e := lex_total (O := itemOrd) (keyD 2 (rowD y)) (keyD 2 (rowD x)) h1 h2
  have e1 : [Sum.inl y.2.1, Sum.inr y.1.cps.toList] = [Sum.inl x.2.1, (Sum.inr x.1.cps.toList : Int ⊕ List Nat)] := e
  have e2 : y.1.cps.toList = x.1.cps.toList := Sum.inr.inj (List.cons.inj (List.cons.inj e1).2).1
  obtain ⟨i, hi, ei⟩ := List.getElem_of_mem (ha.perm.mem_iff.mp hx)
  obtain ⟨j, hj, ej⟩ := List.getElem_of_mem (hb.perm.mem_iff.mp hy)
  have q1 : ts[i]? = some x := by rw [List.getElem?_eq_getElem hi, ei]
  have q2 : ts[j]? = some y := by rw [List.getElem?_eq_getElem hj, ej]
  have := valid_inj h q1 q2 (str_inj e2.symm)
  subst this
  exact Option.some.inj (q1.symm.trans q2)
theorem size_ok {w : Int} (h0 : 0 ≤ w) {rs : List Tp} {k : Nat} : 0 ≤ sizeI w rs k ∧ sizeI w rs k ≤ w := by
  unfold sizeI
  split
  · split <;> omega
  · omega
theorem sizes_len {w : Int} {rs : List Tp} : (sizeL w rs).length = rs.length := by
  unfold sizeL
  rw [List.length_map, List.length_range]
theorem sizes_at {w : Int} {rs : List Tp} {k : Nat} (h : k < rs.length) : (sizeL w rs)[k]? = some (sizeI w rs k) := by
  unfold sizeL
  rw [List.getElem?_map, List.getElem?_range h]; rfl
theorem prod_take {l : List Int} {k : Nat} {x : Int} (h : l[k]? = some x) : prodI (l.take (k + 1)) = prodI (l.take k) * x := by
  unfold prodI
  rw [List.take_add_one, h, List.foldl_append]; rfl
theorem prod_bd {b : Int} (hb : 1 ≤ b) : ∀ {l : List Int} {a : Int}, (∀ x ∈ l, 0 ≤ x ∧ x ≤ b) → 0 ≤ a → 0 ≤ l.foldl (· * ·) a ∧ l.foldl (· * ·) a ≤ a * b ^ l.length
  | [], a, _, h => ⟨h, by simp⟩
  | x :: l, a, hl, h => by
    have hx := hl x (List.mem_cons_self ..)
    have := prod_bd hb (l := l) (a := a * x) (fun y hy => hl y (List.mem_cons_of_mem _ hy)) (Int.mul_nonneg h hx.1)
    refine ⟨this.1, Int.le_trans this.2 ?_⟩
    rw [List.length_cons, Int.pow_succ, Int.mul_comm (b ^ l.length) b, ← Int.mul_assoc]
    exact Int.mul_le_mul_of_nonneg_right (Int.mul_le_mul_of_nonneg_left hx.2 h) (Int.pow_nonneg (by omega))
theorem load_le {ts : List Tp} {p : Int} : loadN ts p ≤ ts.length := List.length_filter_le ..
theorem row_tp {ts rs : List Tp} (h : RowsOf ts rs) : rs.length = ts.length := h.perm.length_eq
theorem min20 {x : Int} : True := trivial
theorem Valid.sub {ts l : List Tp} (h : Valid ts) (s : l.Sublist ts) : Valid l :=
  ⟨Nat.le_trans s.length_le h.len, fun t ht => h.ok t (s.subset ht), h.asc.sublist s⟩
theorem Near.sub {ts l : List Tp} (h : Near ts) (s : l.Sublist ts) : Near l := fun t ht => h t (s.subset ht)
theorem Valid.words {ts : List Tp} (h : Valid ts) : WordsOk (ts.map (·.1)) := by
  refine ⟨fun w hw => ?_, ?_⟩
  · obtain ⟨t, ht, rfl⟩ := List.mem_map.mp hw
    exact (h.ok t ht).1
  · refine List.pairwise_map.mpr (h.asc.imp fun {a b} hab e => ?_)
    rw [e] at hab
    exact lt_irr _ hab
theorem nil_valid : Valid [] := ⟨by decide, fun t ht => (by cases ht), .nil⟩
theorem at3 {α : Type} {z y x w : α} {l : List α} : atI (z :: y :: x :: w :: l) 3 = some w := atI_nat (j := 3) rfl
theorem over_at {w : Int} {ts rs : List Tp} : atI (List.map (fun t : Tp => Dat.int t.2.1) (List.filter (fun t => decide (w < (loadN ts t.2.1 : Nat))) rs) ++ [Dat.non]) 0 = some (overD w ts rs) := by
  refine atI_nat (j := 0) ?_
  unfold overD
  rw [← List.head?_filter]
  cases List.filter (fun t : Tp => decide (w < (loadN ts t.2.1 : Nat))) rs with
  | nil => rfl
  | cons t l => rfl
theorem over_sh {w : Int} {ts rs : List Tp} (hL : LineOk w ts rs) (hn : Near ts) : Sh 0 0 (overD w ts rs) := by
  unfold overD
  split
  · rename_i t h
    have hm : t ∈ ts := hL.rows.perm.mem_iff.mp (List.mem_of_find?_eq_some h)
    have h1 := hn t hm
    have h2 := hL.val.ok t hm
    exact Sh.intIn (by have := h2.2.1; omega) (by have := h2.2.2; omega)
  · exact Sh.non
theorem prod_sh {w : Int} {ts rs : List Tp} (hL : LineOk w ts rs) : Sh 0 0 (.int (prodI (sizeL w rs))) := by
  have h1 := hL.lo
  have h2 := hL.hi
  have h := prod_bd (b := 20) (by decide) (l := sizeL w rs) (a := 1) (fun x hx => by
    obtain ⟨k, hk, rfl⟩ := List.mem_map.mp hx
    have := size_ok (w := w) (by omega) (rs := rs) (k := k)
    omega) (by decide)
  have h24 := hL.val.len
  have hrl := row_tp hL.rows
  have e0 : 20 ^ (sizeL w rs).length ≤ 20 ^ 24 := Nat.pow_le_pow_right (by decide) (by rw [sizes_len]; omega)
  have e : (20 : Int) ^ (sizeL w rs).length ≤ 20 ^ 24 := by
    have := Int.ofNat_le.mpr e0
    rwa [Int.natCast_pow, Int.natCast_pow] at this
  have e2 : (20 : Int) ^ 24 = 16777216000000000000000000000000 := by decide
  have h3 : 0 ≤ prodI (sizeL w rs) ∧ prodI (sizeL w rs) ≤ 1 * 20 ^ (sizeL w rs).length := h
  exact Sh.intIn (by omega) (by omega)
theorem dec_same {K : Dat → Prop} (k : K (.bl true)) (a b : Str) (e : a = b) : K (.bl (decide (a = b))) := by
  rw [decide_eq_true e]; exact k
theorem lc_nat {rg : RG} {re : RE} {gw : G} {KK : List Dat → Mem → Prop} {m : Mem} {h : Nat → Dat} (f : Nat → Dat) (n : Nat) (hl : n ≤ 1000)
    (step : ∀ k < n, ∀ Kc : Cv → Mem → Prop, Kc (.p (f k)) m → rg (.p (h k)) gw m fun g1 m1 => re g1 m1 Kc KE0)
    (fin : KK ((List.range n).map f) m) : lcW rg rYes re (fun _ => True) gw KK ((List.range n).map h) [] m := by
  refine lcW_go (fun i acc m' => m' = m ∧ acc = (List.range i).map f) (by rw [List.length_map, List.length_range, sizeLine_eq]; omega) ⟨rfl, rfl⟩ (fun _ _ _ _ => trivial) ?_ ?_
  · rintro i d acc m' hd ha ⟨rfl, rfl⟩ Kc hK
    have hi : i < n := by
      have := (List.getElem?_eq_some_iff.mp hd).1
      rwa [List.length_map, List.length_range] at this
    rw [List.getElem?_map, List.getElem?_range hi] at hd
    cases hd
    exact step i hi Kc (hK _ _ ⟨rfl, by rw [List.range_succ, List.map_append]; rfl⟩)
  · rintro acc m' ha ⟨rfl, rfl⟩
    rw [List.length_map, List.length_range]
    exact fin
theorem lc_natE {rg : RG} {re : RE} {gw : G} {KK : List Dat → Mem → Prop} {m : Mem} {ds : List Dat} {n : Nat} {h : Nat → Dat} (e : ds = (List.range n).map h) (f : Nat → Dat) (hl : n ≤ 1000)
    (step : ∀ k < n, ∀ Kc : Cv → Mem → Prop, Kc (.p (f k)) m → rg (.p (h k)) gw m fun g1 m1 => re g1 m1 Kc KE0)
    (fin : KK ((List.range n).map f) m) : lcW rg rYes re (fun _ => True) gw KK ds [] m := by
  rw [e]
  exact lc_nat f n hl step fin
theorem len_is_whole {K : PySem.W.Frag} : ∀ cs m Kc KE, sp_is_whole K cs m Kc KE → cs.length = 1 := by rintro cs m Kc KE ⟨d, rfl, _⟩; rfl
theorem pl_is_whole (K : PySem.W.Frag) (cs : List Cv) (m : Mem) (Kc : Cv → Mem → Prop) (KE : Xn → Mem → Prop) (h : sp_is_whole K cs m Kc KE) :
    r_is_whole K { nx := fun _ m => exK false Kc (.p .non) m, rt := exK false Kc, ex := fun x _ m => KE x m.tail } (entry N_is_whole cs) ([] :: m) := by
  obtain ⟨d, rfl, hd, k⟩ := h
  refine ⟨rfl, hd, ?_⟩
  show if isD "int" d = true then _ else _
  rw [isD_int]
  cases d with
  | int i => exact ⟨rfl, trivial, k⟩
  | bl b => exact ⟨rfl, trivial, k⟩
  | _ => exact k
theorem len_is_between {K : PySem.W.Frag} : ∀ cs m Kc KE, sp_is_between K cs m Kc KE → cs.length = 3 := by rintro cs m Kc KE ⟨d, l, h, rfl, _⟩; rfl
theorem pl_is_between (K : PySem.W.Frag) (cs : List Cv) (m : Mem) (Kc : Cv → Mem → Prop) (KE : Xn → Mem → Prop) (h : sp_is_between K cs m Kc KE) :
    r_is_between K { nx := fun _ m => exK false Kc (.p .non) m, rt := exK false Kc, ex := fun x _ m => KE x m.tail } (entry N_is_between cs) ([] :: m) := by
  obtain ⟨d, l, hh, rfl, hd, k⟩ := h
  refine ⟨rfl, d, rfl, hd, ?_⟩
  cases d with
  | int i =>
    refine ite_b (b := decide (l ≤ i)) (fun e => ?_) fun e => ?_
    · have k' : Kc (.p (.bl (decide (l ≤ i) && decide (i ≤ hh)))) m := k
      rw [e] at k'
      exact k'
    · have k' : Kc (.p (.bl (decide (l ≤ i) && decide (i ≤ hh)))) m := k
      rw [e] at k'
      exact k'
  | _ => exact k
theorem len_check_seats {K : PySem.W.Frag} : ∀ cs m Kc KE, sp_check_seats K cs m Kc KE → cs.length = 1 := by rintro cs m Kc KE ⟨d, rfl, _⟩; rfl
theorem pl_check_seats (K : PySem.W.Frag) (cs : List Cv) (m : Mem) (Kc : Cv → Mem → Prop) (KE : Xn → Mem → Prop) (h : sp_check_seats K cs m Kc KE) :
    r_check_seats K { nx := fun _ m => exK false Kc (.p .non) m, rt := exK false Kc, ex := fun x _ m => KE x m.tail } (entry N_check_seats cs) ([] :: m) := by
  obtain ⟨w, rfl, h1, h2, k⟩ := h
  refine ⟨rfl, _, 1, 20, rfl, trivial, ?_⟩
  show if (!(decide (1 ≤ w) && decide (w ≤ 20))) = true then _ else _
  rw [decide_eq_true h1, decide_eq_true h2]
  exact k
theorem len_is_name {K : PySem.W.Frag} : ∀ cs m Kc KE, sp_is_name K cs m Kc KE → cs.length = 1 := by rintro cs m Kc KE ⟨d, rfl, _⟩; rfl
def signLt : Dat → Dat
  | .str ⟨#[c]⟩ => .bl (decide (c ∈ lettersL))
  | _ => .non
theorem signLt_map (x : Str) : (DL.signs x).map signLt = (x.cps.toList.map fun c => decide (c ∈ lettersL)).map Dat.bl := by
  unfold DL.signs
  rw [List.map_map, List.map_map]; rfl
theorem pl_is_name (K : PySem.W.Frag) (cs : List Cv) (m : Mem) (Kc : Cv → Mem → Prop) (KE : Xn → Mem → Prop) (h : sp_is_name K cs m Kc KE) :
    r_is_name K { nx := fun _ m => exK false Kc (.p .non) m, rt := exK false Kc, ex := fun x _ m => KE x m.tail } (entry N_is_name cs) ([] :: m) := by
  obtain ⟨d, rfl, ⟨h1, h2⟩, k⟩ := h
  refine ⟨rfl, h1, ?_⟩
  show if isD "str" d = true then _ else _
  rw [isD_str]
  cases d with
  | str x =>
    refine ⟨h2 x rfl, ?_⟩
    have k' : Kc (.p (.bl (nameS x))) m := k
    unfold nameS at k'
    refine ite_b (b := decide ((0 : Int) < (x.length : Nat))) (fun e => ?_) fun e => ?_
    · rw [decide_eq_true (show 0 < x.length by have := of_decide_eq_true e; omega), Bool.true_and] at k'
      refine ite_b (b := decide (((x.length : Nat) : Int) < 9)) (fun e => ?_) fun e => ?_
      · rw [decide_eq_true (show x.length < 9 by have := of_decide_eq_true e; omega), Bool.true_and] at k'
        refine lcW_map signLt _ trivial (DL.signs x) [] ?_ (fun d hd KK q => ?_) ?_
        · unfold DL.signs
          rw [List.length_map, List.length_nil, Nat.zero_add, Array.length_toList]
          exact h2 x rfl
        · obtain ⟨c, hc, rfl⟩ := List.mem_map.mp hd
          exact ⟨c, rfl, q⟩
        · rw [List.nil_append, signLt_map]
          show allF (Dat.lst (List.map Dat.bl (List.map (fun c => decide (c ∈ lettersL)) x.cps.toList))) fun d => Kc (.p d) m
          refine allF_bls ?_
          rw [List.all_map]
          exact k'
      · rw [decide_eq_false (show ¬ x.length < 9 by have := of_decide_eq_false e; omega), Bool.false_and] at k'
        have k2 : Kc (.p (.bl (decide (((x.length : Nat) : Int) < 9)))) m := by rw [e]; exact k'
        exact k2
    · rw [decide_eq_false (show ¬ 0 < x.length by have := of_decide_eq_false e; omega), Bool.false_and] at k'
      exact k'
  | _ => exact k
theorem len_is_from {K : PySem.W.Frag} : ∀ cs m Kc KE, sp_is_from K cs m Kc KE → cs.length = 2 := by rintro cs m Kc KE ⟨d, l, rfl, _⟩; rfl
theorem pl_is_from (K : PySem.W.Frag) (cs : List Cv) (m : Mem) (Kc : Cv → Mem → Prop) (KE : Xn → Mem → Prop) (h : sp_is_from K cs m Kc KE) :
    r_is_from K { nx := fun _ m => exK false Kc (.p .non) m, rt := exK false Kc, ex := fun x _ m => KE x m.tail } (entry N_is_from cs) ([] :: m) := by
  obtain ⟨d, l, rfl, hd, k⟩ := h
  refine ⟨rfl, d, rfl, hd, ?_⟩
  cases d <;> exact k
theorem len_is_trip {K : PySem.W.Frag} : ∀ cs m Kc KE, sp_is_trip K cs m Kc KE → cs.length = 1 := by rintro cs m Kc KE ⟨d, rfl, _⟩; rfl
theorem trip_no {es : List Dat} (h : es.length ≠ 3) : tripD (.tup es) = false := by
  match es, h with
  | [], _ => rfl
  | [_], _ => rfl
  | [_, _], _ => rfl
  | [_, _, _], h => exact absurd rfl h
  | _ :: _ :: _ :: _ :: _, _ => rfl
theorem pl_is_trip (K : PySem.W.Frag) (cs : List Cv) (m : Mem) (Kc : Cv → Mem → Prop) (KE : Xn → Mem → Prop) (h : sp_is_trip K cs m Kc KE) :
    r_is_trip K { nx := fun _ m => exK false Kc (.p .non) m, rt := exK false Kc, ex := fun x _ m => KE x m.tail } (entry N_is_trip cs) ([] :: m) := by
  obtain ⟨d, rfl, ⟨h1, h2⟩, k⟩ := h
  refine ⟨rfl, h1.1, ?_⟩
  show if (!isD "tuple" d) = true then _ else _
  rw [isD_tuple]
  cases d with
  | tup es =>
    have h3 := h2 es rfl
    by_cases hl : es.length = 3
    · match es, hl, h3, k with
      | [n, s, e], _, h3, k =>
        have hn := h3 n (by simp)
        have hs := h3 s (by simp)
        have he := h3 e (by simp)
        refine ⟨rfl, n, rfl, hn, ?_⟩
        have k1 : Kc (.p (.bl (nameD n && (fromD 0 s && (wholeD e && gtD e s))))) m := k
        refine ite_b (b := !nameD n) (fun e1 => ?_) fun e1 => ?_
        · rw [show nameD n = false by simpa using e1, Bool.false_and] at k1
          exact k1
        · rw [show nameD n = true by simpa using e1, Bool.true_and] at k1
          refine ⟨rfl, s, 0, rfl, hs.1, ?_⟩
          refine ite_b (b := fromD 0 s) (fun e2 => ?_) fun e2 => ?_
          · rw [e2, Bool.true_and] at k1
            refine ⟨rfl, e, rfl, he.1, ?_⟩
            refine ite_b (b := wholeD e) (fun e3 => ?_) fun e3 => ?_
            · rw [e3, Bool.true_and] at k1
              cases e with
              | int j =>
                cases s with
                | int i => exact k1
                | _ => cases e2
              | _ => cases e3
            · rw [e3, Bool.false_and] at k1
              have k2 : Kc (.p (.bl (wholeD e))) m := by rw [e3]; exact k1
              exact k2
          · rw [e2, Bool.false_and] at k1
            have k2 : Kc (.p (.bl (fromD 0 s))) m := by rw [e2]; exact k1
            exact k2
    · rw [trip_no hl] at k
      refine ite_b (b := !decide (((es.length : Nat) : Int) = 3)) (fun e1 => ?_) fun e1 => ?_
      · exact k
      · exact absurd (by have e2 : decide (((es.length : Nat) : Int) = 3) = true := by simpa using e1
                         have := of_decide_eq_true e2
                         omega) hl
  | _ => exact k
theorem len_first_wrong {K : PySem.W.Frag} : ∀ cs m Kc KE, sp_first_wrong K cs m Kc KE → cs.length = 1 := by rintro cs m Kc KE ⟨d, rfl, _⟩; rfl
/-- the name of what was taken before -/
def lastN (ds : List Dat) : Nat → Option Str
  | 0 => none
  | i + 1 => (ds[i]?).bind nameOf
theorem tripD_ok {d : Dat} (h : tripD d = true) : ∃ x s e, d = .tup [.str x, .int s, .int e] ∧ nameS x = true ∧ 0 ≤ s ∧ s < e := by
  unfold tripD at h
  split at h
  · rename_i n s e
    obtain ⟨h1, h⟩ := Bool.and_eq_true_iff.mp h
    obtain ⟨h2, h⟩ := Bool.and_eq_true_iff.mp h
    obtain ⟨h3, h4⟩ := Bool.and_eq_true_iff.mp h
    cases n <;> try (cases h1; done)
    cases s <;> try (cases h2; done)
    cases e <;> try (cases h3; done)
    exact ⟨_, _, _, rfl, h1, of_decide_eq_true h2, of_decide_eq_true h4⟩
  · cases h
theorem drop_get {α : Type} {l : List α} {i : Nat} {x : α} (h : l[i]? = some x) : l.drop i = x :: l.drop (i + 1) := by
  obtain ⟨h1, h2⟩ := List.getElem?_eq_some_iff.mp h
  rw [← h2]
  exact List.drop_eq_getElem_cons h1
theorem pl_first_wrong (K : PySem.W.Frag) (cs : List Cv) (m : Mem) (Kc : Cv → Mem → Prop) (KE : Xn → Mem → Prop) (h : sp_first_wrong K cs m Kc KE) :
    r_first_wrong K { nx := fun _ m => exK false Kc (.p .non) m, rt := exK false Kc, ex := fun x _ m => KE x m.tail } (entry N_first_wrong cs) ([] :: m) := by
  obtain ⟨ds, rfl, hds, k⟩ := h
  refine forW_go (fun i g m' => m' = [] :: m ∧ (∃ a b, g = [some (.p (.tup ds)), a, b]) ∧ fwD none 0 ds = fwD (lastN ds i) i (ds.drop i) ∧ (∀ j, j < i → ∃ d, ds[j]? = some d ∧ tripD d = true)) ?_ (fun _ _ _ _ => trivial) ?_ ?_
  · exact ⟨rfl, ⟨none, none, rfl⟩, rfl, fun j hj => absurd hj (Nat.not_lt_zero _)⟩
  · rintro i d g m' hd ⟨rfl, ⟨a, b, rfl⟩, hf, hall⟩ N hN
    obtain ⟨d0, hd0, rfl⟩ := enD_get 0 ds i d hd
    rw [Nat.zero_add] at hd ⊢
    refine ⟨rfl, ?_⟩
    have hok := hds d0 (List.mem_of_getElem? hd0)
    rw [drop_get hd0] at hf
    rw [fwD_cons] at hf
    refine ite_b (b := decide ((24 : Int) ≤ (i : Nat))) (fun e1 => ?_) fun e1 => ?_
    · rw [decide_eq_true (show 24 ≤ i by have := of_decide_eq_true e1; omega), Bool.true_or, if_pos rfl] at hf
      rw [hf] at k
      exact k
    · rw [decide_eq_false (show ¬ 24 ≤ i by have := of_decide_eq_false e1; omega), Bool.false_or] at hf
      refine ⟨rfl, d0, rfl, hok, ?_⟩
      refine ite_b (b := !tripD d0) (fun e2 => ?_) fun e2 => ?_
      · rw [e2, Bool.true_or, if_pos rfl] at hf
        rw [hf] at k
        exact k
      · have e3 : tripD d0 = true := by simpa using e2
        obtain ⟨x, s, e, rfl, hx, hs, he⟩ := tripD_ok e3
        rw [e2, Bool.false_or] at hf
        have next : fwD none 0 ds = fwD (lastN ds (i + 1)) (i + 1) (ds.drop (i + 1)) → N [some (.p (.tup ds)), some (.p (.int i)), some (.p (.tup [.str x, .int s, .int e]))] ([] :: m) := fun e4 => hN _ _ ⟨rfl, ⟨_, _, rfl⟩, e4, fun j hj => by
          by_cases q : j = i
          · subst q; exact ⟨_, hd0, e3⟩
          · exact hall j (by omega)⟩
        have l1 : lastN ds (i + 1) = some x := by
          show (ds[i]?).bind nameOf = some x
          rw [hd0]; rfl
        refine ite_b (b := decide ((0 : Int) < (i : Nat))) (fun e4 => ?_) fun e4 => ?_
        · obtain ⟨j, rfl⟩ : ∃ j, i = j + 1 := ⟨i - 1, by have := of_decide_eq_true e4; omega⟩
          obtain ⟨dp, hp, tp⟩ := hall j (Nat.lt_succ_self j)
          obtain ⟨y, s', e', rfl, hy, _, _⟩ := tripD_ok tp
          have l2 : lastN ds (j + 1) = some y := by
            show (ds[j]?).bind nameOf = some y
            rw [hp]; rfl
          rw [l2] at hf
          have hf : fwD none 0 ds = if (!decide (y.cps.toList < x.cps.toList)) = true then some (j + 1) else fwD (some x) (j + 1 + 1) (ds.drop (j + 1 + 1)) := hf
          have ei : atI ds (((j + 1 : Nat) : Int) - 1) = some (.tup [.str y, .int s', .int e']) := by
            rw [show ((j + 1 : Nat) : Int) - 1 = ((j : Nat) : Int) by omega]
            exact atI_nat hp
          simp only [rTe, rOp, rVar, rC, slot, put, view, iF, true_and]
          refine ixF_tup rfl (ixF_tup ei (ixF_tup rfl ?_))
          refine ite_b (b := !decide (y.cps.toList < x.cps.toList)) (fun e5 => ?_) fun e5 => ?_
          · rw [if_pos e5] at hf
            rw [hf] at k
            exact k
          · rw [if_neg (by rw [e5]; exact Bool.false_ne_true)] at hf
            exact next (by rw [l1]; exact hf)
        · have e5 : i = 0 := by have := of_decide_eq_false e4; omega
          subst e5
          have hf : fwD none 0 ds = fwD (some x) 1 (ds.drop 1) := hf
          exact next (by rw [l1]; exact hf)
  · rintro g m' ⟨rfl, ⟨a, b, rfl⟩, hf, _⟩
    rw [enD_len, List.drop_length] at hf
    rw [hf] at k
    exact k
theorem len_by_start {K : PySem.W.Frag} : ∀ cs m Kc KE, sp_by_start K cs m Kc KE → cs.length = 1 := by rintro cs m Kc KE ⟨d, _, rfl, _⟩; rfl
def rowF : Dat → Dat
  | .tup [.str x, .int s, .int e] => .tup [.int s, .str x, .tup [.str x, .int s, .int e]]
  | d => d
def thirdF : Dat → Dat
  | .tup [_, _, d] => d
  | d => d
theorem rowF_map (ts : List Tp) : (ts.map tpD).map rowF = (ts.map rowD).map Dat.tup := by
  rw [List.map_map, List.map_map]; rfl
theorem thirdF_map (ts : List Tp) : ((ts.map rowD).map Dat.tup).map thirdF = ts.map tpD := by
  rw [List.map_map, List.map_map]; rfl
theorem paired_map {α β : Type} {f : α → β} : ∀ {out : List β} {rs : List α}, Paired (fun (b : β) (a : α) => b = f a) out rs → out = rs.map f
  | _, _, .nil => rfl
  | _, _, .cons a r => by rw [List.map_cons, ← a, ← paired_map r]
theorem map_paired {α β : Type} (f : α → β) : ∀ l : List α, Paired (fun (b : β) (a : α) => b = f a) (l.map f) l
  | [] => .nil
  | _ :: l => .cons rfl (map_paired f l)
theorem perm_map {α β : Type} (f : α → β) {ts : List α} {out : List β} (h : out.Perm (ts.map f)) : ∃ rs : List α, rs.Perm ts ∧ out = rs.map f := by
  obtain ⟨rs, h1, h2⟩ := paired_perm h (map_paired f ts)
  exact ⟨rs, h1, paired_map h2⟩
theorem rows_ok {ts : List Tp} (h : ts.Pairwise fun a b => a.1.cps.toList < b.1.cps.toList) : RowsOk (fun i => i == 1) 2 3 (ts.map rowD) := by
  refine ⟨by decide, by decide, fun r hr => ?_, fun i j ri rj hi hj e => ?_⟩
  · obtain ⟨t, _, rfl⟩ := List.mem_map.mp hr
    exact ⟨rfl, rfl⟩
  · rw [List.getElem?_map] at hi hj
    cases q1 : ts[i]? with
    | none => rw [q1] at hi; cases hi
    | some a =>
      cases q2 : ts[j]? with
      | none => rw [q2] at hj; cases hj
      | some b =>
        rw [q1] at hi; rw [q2] at hj
        cases hi; cases hj
        have e1 : [Sum.inl a.2.1, Sum.inr a.1.cps.toList] = [Sum.inl b.2.1, (Sum.inr b.1.cps.toList : Int ⊕ List Nat)] := e
        have e2 : a.1.cps.toList = b.1.cps.toList := by
          have := (List.cons.inj (List.cons.inj e1).2).1
          exact Sum.inr.inj this
        have e3 : a.1 = b.1 := by
          have := Array.toList_inj.mp e2
          cases h1 : a.1; cases h2 : b.1
          rw [h1, h2] at this
          simp only at this
          rw [this]
        exact .inl (valid_inj h q1 q2 e3)
theorem size24 {n : Nat} (h : n ≤ 24) : 0 + n ≤ sizeLine := by rw [sizeLine_eq]; omega
theorem pl_by_start (K : PySem.W.Frag) (cs : List Cv) (m : Mem) (Kc : Cv → Mem → Prop) (KE : Xn → Mem → Prop) (h : sp_by_start K cs m Kc KE) :
    r_by_start K { nx := fun _ m => exK false Kc (.p .non) m, rt := exK false Kc, ex := fun x _ m => KE x m.tail } (entry N_by_start cs) ([] :: m) := by
  obtain ⟨ts, hv, rfl, k⟩ := h
  refine lcW_map rowF _ trivial (ts.map tpD) [] (by rw [List.length_map]; exact size24 hv.len) (fun d hd KK q => ?_) ?_
  · obtain ⟨t, _, rfl⟩ := List.mem_map.mp hd
    exact ⟨by show 3 ≤ sizeLine; decide, q⟩
  · rw [List.nil_append, rowF_map]
    refine .inr ⟨ts.map rowD, fun i => i == 1, 2, 3, rfl, rows_ok hv.asc, fun out hp ho => ?_⟩
    obtain ⟨rs, hp2, rfl⟩ := perm_map rowD hp
    have hl := hp2.length_eq
    refine lcW_map thirdF _ trivial ((rs.map rowD).map Dat.tup) [] (by rw [List.length_map, List.length_map, hl]; exact size24 hv.len) (fun d hd KK q => ?_) ?_
    · obtain ⟨r, hr, rfl⟩ := List.mem_map.mp hd
      obtain ⟨t, _, rfl⟩ := List.mem_map.mp hr
      exact q
    · rw [List.nil_append, thirdF_map]
      exact k rs ⟨hp2, List.pairwise_map.mp ho⟩
theorem len_Line___init__ {K : PySem.W.Frag} : ∀ cs m Kc KE, sp_Line___init__ K cs m Kc KE → cs.length = 3 := by rintro cs m Kc KE ⟨_, _, _, _, _, rfl, _⟩; rfl
theorem nameS_len {x : Str} (h : nameS x = true) : x.length < 9 := by
  unfold nameS at h
  obtain ⟨_, h⟩ := Bool.and_eq_true_iff.mp h
  obtain ⟨h, _⟩ := Bool.and_eq_true_iff.mp h
  exact of_decide_eq_true h
theorem okT_tp {K : PySem.W.Frag} {t : Tp} (h : tpOk t) : okT K (tpD t) := by
  refine ⟨⟨trivial, fun x e => by cases e⟩, fun es e d hd => ?_⟩
  cases e
  rcases List.mem_cons.mp hd with rfl | hd
  · refine ⟨trivial, fun x e => ?_⟩
    cases e
    have := nameS_len h.1
    rw [sizeLine_eq]; omega
  · rcases List.mem_cons.mp hd with rfl | hd
    · exact ⟨trivial, fun x e => by cases e⟩
    · rcases List.mem_cons.mp hd with rfl | hd
      · exact ⟨trivial, fun x e => by cases e⟩
      · cases hd
theorem trip_tp {t : Tp} (h : tpOk t) : tripD (tpD t) = true := by
  show (nameS t.1 && (decide (0 ≤ t.2.1) && (true && decide (t.2.1 < t.2.2)))) = true
  rw [h.1, decide_eq_true h.2.1, decide_eq_true h.2.2]; rfl
theorem fwD_valid : ∀ (ts : List Tp) (p : Option Str) (i : Nat), i + ts.length ≤ 24 → (∀ t ∈ ts, tpOk t) → ts.Pairwise (fun a b => a.1.cps.toList < b.1.cps.toList) → (∀ q, p = some q → ∀ t ∈ ts, q.cps.toList < t.1.cps.toList) → fwD p i (ts.map tpD) = none
  | [], _, _, _, _, _, _ => rfl
  | t :: ts, p, i, hl, ho, ha, hp => by
    rw [List.map_cons, fwD_cons, trip_tp (ho t (List.mem_cons_self ..)), decide_eq_false (by rw [List.length_cons] at hl; omega)]
    have e1 : notBehind p (nameOf (tpD t)) = false := by
      cases p with
      | none => rfl
      | some q =>
        show (!decide (q.cps.toList < t.1.cps.toList)) = false
        rw [decide_eq_true (hp q rfl t (List.mem_cons_self ..))]; rfl
    rw [e1]
    have ha2 := List.pairwise_cons.mp ha
    exact fwD_valid ts (some t.1) (i + 1) (by rw [List.length_cons] at hl; omega) (fun u hu => ho u (List.mem_cons_of_mem _ hu)) ha2.2 fun q hq u hu => by cases hq; exact ha2.1 u hu
theorem pl_Line___init__ (K : PySem.W.Frag) (cs : List Cv) (m : Mem) (Kc : Cv → Mem → Prop) (KE : Xn → Mem → Prop) (h : sp_Line___init__ K cs m Kc KE) :
    r_Line___init__ K { nx := fun _ m => exK false Kc (.p .non) m, rt := exK false Kc, ex := fun x _ m => KE x m.tail } (entry N_Line___init__ cs) ([] :: m) := by
  obtain ⟨n, i, a, w, ts, rfl, hg, h1, h2, hv, k⟩ := h
  refine ⟨rfl, w, rfl, h1, h2, ?_⟩
  refine ⟨rfl, trivial, ?_⟩
  refine ⟨rfl, ts.map tpD, rfl, fun d hd => ?_, ?_⟩
  · obtain ⟨t, ht, rfl⟩ := List.mem_map.mp hd
    exact okT_tp (hv.ok t ht)
  rw [fwD_valid ts none 0 (by have := hv.len; omega) hv.ok hv.asc fun q hq => by cases hq]
  refine ⟨trivial, ?_⟩
  have s1 : mget ([] :: m) (n + 1) i = some (a, .ins (He.ga K "Line") []) := hg
  have s2 := mget_mset (lo' := .ins (He.ga K "Line") [("width", .int w)]) s1
  have s3 := mget_mset (lo' := .ins (He.ga K "Line") [("width", .int w), ("booked", .tup (ts.map tpD))]) s1
  show match mget ([] :: m) (n + 1) i with
    | some (_, .ins C' fs) => _
    | _ => False
  rw [s1]
  refine ⟨rfl, by decide, ?_⟩
  show match mget (mset ([] :: m) (n + 1) i (.ins (He.ga K "Line") [("width", .int w)])) (n + 1) i with
    | some (_, .ins C' fs) => _
    | _ => False
  rw [s2]
  refine ⟨rfl, by show 1 < 1000; decide, ?_⟩
  rw [mset_mset]
  refine ⟨rfl, ts, hv, rfl, fun rs hr => ?_⟩
  show match mget (mset ([] :: m) (n + 1) i (.ins (He.ga K "Line") [("width", .int w), ("booked", .tup (ts.map tpD))])) (n + 1) i with
    | some (_, .ins C' fs) => _
    | _ => False
  rw [s3]
  refine ⟨rfl, by show 2 < 1000; decide, ?_⟩
  rw [mset_mset]
  exact k rs hr
theorem len__law_by_start {K : PySem.W.Frag} : ∀ cs m Kc KE, sp__law_by_start K cs m Kc KE → cs.length = 1 := by rintro cs m Kc KE ⟨_, _, rfl, _⟩; rfl
theorem pl__law_by_start (K : PySem.W.Frag) (cs : List Cv) (m : Mem) (Kc : Cv → Mem → Prop) (KE : Xn → Mem → Prop) (h : sp__law_by_start K cs m Kc KE) :
    r__law_by_start K { nx := fun _ m => exK false Kc (.p .non) m, rt := exK false Kc, ex := fun x _ m => KE x m.tail } (entry N__law_by_start cs) ([] :: m) := by
  obtain ⟨ts, hv, rfl, k⟩ := h
  refine lcW_map rowF _ trivial (ts.map tpD) [] (by rw [List.length_map]; exact size24 hv.len) (fun d hd KK q => ?_) ?_
  · obtain ⟨t, _, rfl⟩ := List.mem_map.mp hd
    exact ⟨by show 3 ≤ sizeLine; decide, q⟩
  · rw [List.nil_append, rowF_map]
    refine .inr ⟨ts.map rowD, fun i => i == 1, 2, 3, rfl, rows_ok hv.asc, fun out hp ho => ?_⟩
    obtain ⟨rs, hp2, rfl⟩ := perm_map rowD hp
    have hl := hp2.length_eq
    refine lcW_map thirdF _ trivial ((rs.map rowD).map Dat.tup) [] (by rw [List.length_map, List.length_map, hl]; exact size24 hv.len) (fun d hd KK q => ?_) ?_
    · obtain ⟨r, hr, rfl⟩ := List.mem_map.mp hd
      obtain ⟨t, _, rfl⟩ := List.mem_map.mp hr
      exact q
    · rw [List.nil_append, thirdF_map]
      exact k rs ⟨hp2, List.pairwise_map.mp ho⟩
theorem len__law_load {K : PySem.W.Frag} : ∀ cs m Kc KE, sp__law_load K cs m Kc KE → cs.length = 2 := by rintro cs m Kc KE ⟨_, _, _, rfl, _⟩; rfl
theorem pl__law_load (K : PySem.W.Frag) (cs : List Cv) (m : Mem) (Kc : Cv → Mem → Prop) (KE : Xn → Mem → Prop) (h : sp__law_load K cs m Kc KE) :
    r__law_load K { nx := fun _ m => exK false Kc (.p .non) m, rt := exK false Kc, ex := fun x _ m => KE x m.tail } (entry N__law_load cs) ([] :: m) := by
  obtain ⟨d, ts, p, rfl, hd, hl, k⟩ := h
  have main : lcW (rgName 2) (rTe (rChain leF ltF (rOp ixF (rVar 2) (rC (.int 1))) (rVar 1) (rOp ixF (rVar 2) (rC (.int 2))))) (rVar 2) (fun _ => True) [some (.p d), some (.p (.int p)), none] (fun acc m2 => exK false Kc (.p (.int acc.length)) m2) (ts.map tpD) [] ([] :: m) := by
    refine lc_tp (fun t => passB t p) tpD ts hl (fun t ht Kt hk => ?_) ?_
    · have hk := hk [some (.p d), some (.p (.int p)), some (.p (tpD t))] fun Kc h1 h2 => h1 h2
      unfold passB at hk
      refine ite_b (b := decide (t.2.1 ≤ p)) (fun e => ?_) fun e => ?_
      · rw [e] at hk; exact hk
      · rw [e] at hk; exact hk
    · rw [List.length_map]
      exact k
  rcases hd with rfl | rfl
  · exact main
  · exact main
theorem len__law_meet {K : PySem.W.Frag} : ∀ cs m Kc KE, sp__law_meet K cs m Kc KE → cs.length = 2 := by rintro cs m Kc KE ⟨_, _, rfl, _⟩; rfl
theorem pl__law_meet (K : PySem.W.Frag) (cs : List Cv) (m : Mem) (Kc : Cv → Mem → Prop) (KE : Xn → Mem → Prop) (h : sp__law_meet K cs m Kc KE) :
    r__law_meet K { nx := fun _ m => exK false Kc (.p .non) m, rt := exK false Kc, ex := fun x _ m => KE x m.tail } (entry N__law_meet cs) ([] :: m) := by
  obtain ⟨s, t, rfl, k⟩ := h
  unfold meetB at k
  refine ite_b (b := decide (s.2.1 < t.2.2)) (fun e => ?_) fun e => ?_
  · rw [e] at k
    exact k
  · rw [e] at k
    show Kc (.p (.bl (decide (s.2.1 < t.2.2)))) m
    rw [e]
    exact k
theorem len__law_product {K : PySem.W.Frag} : ∀ cs m Kc KE, sp__law_product K cs m Kc KE → cs.length = 2 := by rintro cs m Kc KE ⟨_, _, rfl, _⟩; rfl
theorem pl__law_product (K : PySem.W.Frag) (cs : List Cv) (m : Mem) (Kc : Cv → Mem → Prop) (KE : Xn → Mem → Prop) (h : sp__law_product K cs m Kc KE) :
    r__law_product K { nx := fun _ m => exK false Kc (.p .non) m, rt := exK false Kc, ex := fun x _ m => KE x m.tail } (entry N__law_product cs) ([] :: m) := by
  obtain ⟨w, ts, rfl, hv, hw0, hw, k⟩ := h
  have e62 : (2 : Int) ^ 62 = 4611686018427387904 := by decide
  have e64 : (2 : Int) ^ 64 = 18446744073709551616 := by decide
  refine ⟨rfl, ts, hv, rfl, fun rs hr => ⟨by show 2 ≤ sizeLine; decide, rfl, ?_⟩⟩
  have hrl := row_tp hr
  have h24 := hv.len
  have hlm : ((rs.map tpD).length : Nat) = rs.length := List.length_map ..
  refine ⟨⟨by omega, by omega⟩, ?_⟩
  rw [Int.toNat_natCast, hlm]
  refine forW_go (fun j g m' => m' = [] :: m ∧ ∃ x y, g = [some (.p (.int w)), some (.p (.tup (ts.map tpD))), some (.p (.lst (rs.map tpD))), some (.p (.int (prodI ((sizeL w rs).take j)))), x, y]) ⟨rfl, _, _, rfl⟩ (fun _ _ _ _ => trivial) ?_ ?_
  · rintro j d g m' hd ⟨rfl, x, y, rfl⟩ N hN
    have hj : j < rs.length := by
      have := (List.getElem?_eq_some_iff.mp hd).1
      rwa [rngD_len] at this
    obtain rfl : d = .int j := by
      unfold rngD at hd
      rw [List.getElem?_map, List.getElem?_range hj] at hd
      cases hd
      exact congrArg Dat.int (Int.zero_add _)
    have ht := List.getElem?_eq_getElem hj
    have e : cutD (rs.map tpD) none (some (j : Int)) = (rs.take j).map tpD := by rw [cutD_to, ← List.map_take]
    have b := size_ok (w := w) hw0 (rs := rs) (k := j)
    show lcW _ _ _ (fun _ => True) _ _ (cutD (rs.map tpD) none (some (j : Int))) [] _
    rw [e]
    refine lc_tp (fun u => meetB u rs[j]) tpD (rs.take j) (by rw [List.length_take]; omega) (fun u hu Kt hk => ?_) ?_
    · exact ix_nat ht ⟨rfl, u, rs[j], rfl, hk _ fun Kc h1 h2 => h1 h2⟩
    · refine ⟨trivial, .inl ?_⟩
      have es : (if w - ((List.map tpD (List.filter (fun u => meetB u rs[j]) (rs.take j))).length : Nat) > 0 then w - ((List.map tpD (List.filter (fun u => meetB u rs[j]) (rs.take j))).length : Nat) else 0) = sizeI w rs j := by
        unfold sizeI earlN
        rw [ht, List.length_map]
      show maxF (.int 0) (.int (w - ((List.map tpD (List.filter (fun u => meetB u rs[j]) (rs.take j))).length : Nat))) (fun d => mulF (.int (prodI ((sizeL w rs).take j))) d fun r => N [some (.p (.int w)), some (.p (.tup (ts.map tpD))), some (.p (.lst (rs.map tpD))), some (.p r), some (.p (.int j)), y] ([] :: m))
      rw [maxF_ii, es]
      exact ⟨.inr ⟨by omega, by omega⟩, hN _ _ ⟨rfl, _, _, by rw [prod_take (sizes_at hj)]⟩⟩
  · rintro g m' ⟨rfl, x, y, rfl⟩
    rw [rngD_len, ← sizes_len (w := w), List.take_length]
    exact k rs hr
theorem len_check_line {K : PySem.W.Frag} : ∀ cs m Kc KE, sp_check_line K cs m Kc KE → cs.length = 1 := by rintro cs m Kc KE ⟨_, _, _, rfl, _⟩; rfl
theorem pl_check_line (K : PySem.W.Frag) (fc : Fc K) (cs : List Cv) (m : Mem) (Kc : Cv → Mem → Prop) (KE : Xn → Mem → Prop) (h : sp_check_line K cs m Kc KE) :
    r_check_line K { nx := fun _ m => exK false Kc (.p .non) m, rt := exK false Kc, ex := fun x _ m => KE x m.tail } (entry N_check_line cs) ([] :: m) := by
  obtain ⟨w, ts, rs, rfl, k⟩ := h
  refine ⟨rfl, ⟨fc.insL, .inl rfl⟩, ?_⟩
  have e : isC (He.ga K (Str.ofString "Line")) (lineD K w ts rs) = true := decide_eq_true rfl
  show if (!isC (He.ga K (Str.ofString "Line")) (lineD K w ts rs)) = true then _ else _
  rw [e]
  exact k
theorem len_Line___len__ {K : PySem.W.Frag} : ∀ cs m Kc KE, sp_Line___len__ K cs m Kc KE → cs.length = 1 := by rintro cs m Kc KE ⟨_, _, _, rfl, _⟩; rfl
theorem pl_Line___len__ (K : PySem.W.Frag) (cs : List Cv) (m : Mem) (Kc : Cv → Mem → Prop) (KE : Xn → Mem → Prop) (h : sp_Line___len__ K cs m Kc KE) :
    r_Line___len__ K { nx := fun _ m => exK false Kc (.p .non) m, rt := exK false Kc, ex := fun x _ m => KE x m.tail } (entry N_Line___len__ cs) ([] :: m) := by
  obtain ⟨w, ts, rs, rfl, k⟩ := h
  exact ⟨rfl, by show Kc (.p (.int (List.map tpD ts).length)) m; rw [List.length_map]; exact k⟩
theorem len_Line_capacity {K : PySem.W.Frag} : ∀ cs m Kc KE, sp_Line_capacity K cs m Kc KE → cs.length = 1 := by rintro cs m Kc KE ⟨_, _, _, rfl, _⟩; rfl
theorem pl_Line_capacity (K : PySem.W.Frag) (cs : List Cv) (m : Mem) (Kc : Cv → Mem → Prop) (KE : Xn → Mem → Prop) (h : sp_Line_capacity K cs m Kc KE) :
    r_Line_capacity K { nx := fun _ m => exK false Kc (.p .non) m, rt := exK false Kc, ex := fun x _ m => KE x m.tail } (entry N_Line_capacity cs) ([] :: m) := by
  obtain ⟨w, ts, rs, rfl, k⟩ := h
  exact ⟨rfl, k⟩
theorem len_meet {K : PySem.W.Frag} : ∀ cs m Kc KE, sp_meet K cs m Kc KE → cs.length = 2 := by rintro cs m Kc KE ⟨_, _, rfl, _⟩; rfl
theorem pl_meet (K : PySem.W.Frag) (cs : List Cv) (m : Mem) (Kc : Cv → Mem → Prop) (KE : Xn → Mem → Prop) (h : sp_meet K cs m Kc KE) :
    r_meet K { nx := fun _ m => exK false Kc (.p .non) m, rt := exK false Kc, ex := fun x _ m => KE x m.tail } (entry N_meet cs) ([] :: m) := by
  obtain ⟨s, t, rfl, k⟩ := h
  unfold meetB at k
  refine ite_b (b := decide (s.2.1 < t.2.2)) (fun e => ?_) fun e => ?_
  · rw [e] at k
    exact k
  · rw [e] at k
    show Kc (.p (.bl (decide (s.2.1 < t.2.2)))) m
    rw [e]
    exact k
theorem len_earlier {K : PySem.W.Frag} : ∀ cs m Kc KE, sp_earlier K cs m Kc KE → cs.length = 2 := by rintro cs m Kc KE ⟨_, _, _, _, _, rfl, _⟩; rfl
theorem pl_earlier (K : PySem.W.Frag) (cs : List Cv) (m : Mem) (Kc : Cv → Mem → Prop) (KE : Xn → Mem → Prop) (h : sp_earlier K cs m Kc KE) :
    r_earlier K { nx := fun _ m => exK false Kc (.p .non) m, rt := exK false Kc, ex := fun x _ m => KE x m.tail } (entry N_earlier cs) ([] :: m) := by
  obtain ⟨w, ts, rs, k0, t, rfl, hl, ht, k⟩ := h
  refine ⟨rfl, ?_⟩
  have e : cutD (rs.map tpD) none (some (k0 : Int)) = (rs.take k0).map tpD := by rw [cutD_to, ← List.map_take]
  show lcW _ _ _ (fun _ => True) _ _ (cutD (rs.map tpD) none (some (k0 : Int))) [] _
  rw [e]
  refine lc_tp (fun u => meetB u t) tpD (rs.take k0) (by rw [List.length_take]; omega) (fun u hu Kt hk => ?_) k
  exact ⟨rfl, ix_nat ht ⟨rfl, u, t, rfl, hk _ fun Kc h1 h2 => h1 h2⟩⟩
theorem len_sizes_of {K : PySem.W.Frag} : ∀ cs m Kc KE, sp_sizes_of K cs m Kc KE → cs.length = 1 := by rintro cs m Kc KE ⟨_, _, _, rfl, _⟩; rfl
theorem pl_sizes_of (K : PySem.W.Frag) (cs : List Cv) (m : Mem) (Kc : Cv → Mem → Prop) (KE : Xn → Mem → Prop) (h : sp_sizes_of K cs m Kc KE) :
    r_sizes_of K { nx := fun _ m => exK false Kc (.p .non) m, rt := exK false Kc, ex := fun x _ m => KE x m.tail } (entry N_sizes_of cs) ([] :: m) := by
  obtain ⟨w, ts, rs, rfl, hr, hl, k⟩ := h
  have e62 : (2 : Int) ^ 62 = 4611686018427387904 := by decide
  have e63 : (2 : Int) ^ 63 = 9223372036854775808 := by decide
  refine ⟨rfl, w, ts, rs, rfl, ts.length, rfl, by omega, by omega, ⟨by omega, by omega⟩, ?_⟩
  rw [Int.toNat_natCast, ← hr]
  refine lc_rg (fun k => .int (sizeI w rs k)) rs.length (by omega) (fun j hj Kc q => ?_) ?_
  · refine ⟨rfl, w, ts, rs, rfl, rfl, w, ts, rs, j, rs[j], rfl, by omega, List.getElem?_eq_getElem hj, trivial, .inl ?_⟩
    unfold sizeI at q
    rw [List.getElem?_eq_getElem hj] at q
    show Kc (.p (.int (if w - ((List.map tpD (earlN rs j rs[j])).length : Nat) > 0 then w - ((List.map tpD (earlN rs j rs[j])).length : Nat) else 0))) _
    rw [List.length_map]
    exact q
  · have e : (List.range rs.length).map (fun k => Dat.int (sizeI w rs k)) = (sizeL w rs).map .int := by unfold sizeL; rw [List.map_map]; rfl
    rw [e]
    exact k
theorem len_count {K : PySem.W.Frag} : ∀ cs m Kc KE, sp_count K cs m Kc KE → cs.length = 1 := by rintro cs m Kc KE ⟨_, _, _, rfl, _⟩; rfl
theorem pl_count (K : PySem.W.Frag) (cs : List Cv) (m : Mem) (Kc : Cv → Mem → Prop) (KE : Xn → Mem → Prop) (h : sp_count K cs m Kc KE) :
    r_count K { nx := fun _ m => exK false Kc (.p .non) m, rt := exK false Kc, ex := fun x _ m => KE x m.tail } (entry N_count cs) ([] :: m) := by
  obtain ⟨w, ts, rs, rfl, hL, k⟩ := h
  have hrl := row_tp hL.rows
  have h24 := hL.val.len
  have h1 := hL.lo
  have h2 := hL.hi
  refine ⟨rfl, w, ts, rs, rfl, rfl, w, ts, rs, rfl, hrl, by omega, ?_⟩
  refine forW_go (fun j g m' => m' = [] :: m ∧ ∃ x, g = [some (.p (lineD K w ts rs)), some (.p (.int (prodI ((sizeL w rs).take j)))), x]) ⟨rfl, _, rfl⟩ (fun _ _ _ _ => trivial) ?_ ?_
  · rintro j d g m' hd ⟨rfl, x, rfl⟩ N hN
    rw [List.getElem?_map] at hd
    obtain ⟨s, hs, rfl⟩ := Option.map_eq_some_iff.mp hd
    have hj : j < rs.length := by
      have := (List.getElem?_eq_some_iff.mp hs).1
      rwa [sizes_len] at this
    obtain rfl := Option.some.inj (hs.symm.trans (sizes_at hj))
    have b := size_ok (w := w) (by omega) (rs := rs) (k := j)
    have e64 : (2 : Int) ^ 64 = 18446744073709551616 := by decide
    exact ⟨.inr ⟨by omega, by omega⟩, hN _ _ ⟨rfl, _, by rw [prod_take hs]; rfl⟩⟩
  · rintro g m' ⟨rfl, x, rfl⟩
    rw [List.length_map, List.take_length]
    exact k
theorem len_passes {K : PySem.W.Frag} : ∀ cs m Kc KE, sp_passes K cs m Kc KE → cs.length = 2 := by rintro cs m Kc KE ⟨_, _, rfl, _⟩; rfl
theorem pl_passes (K : PySem.W.Frag) (cs : List Cv) (m : Mem) (Kc : Cv → Mem → Prop) (KE : Xn → Mem → Prop) (h : sp_passes K cs m Kc KE) :
    r_passes K { nx := fun _ m => exK false Kc (.p .non) m, rt := exK false Kc, ex := fun x _ m => KE x m.tail } (entry N_passes cs) ([] :: m) := by
  obtain ⟨t, p, rfl, k⟩ := h
  unfold passB at k
  refine ite_b (b := decide (t.2.1 ≤ p)) (fun e => ?_) fun e => ?_
  · rw [e] at k
    exact k
  · rw [e] at k
    exact k
theorem len_load_of {K : PySem.W.Frag} : ∀ cs m Kc KE, sp_load_of K cs m Kc KE → cs.length = 2 := by rintro cs m Kc KE ⟨_, _, rfl, _⟩; rfl
theorem pl_load_of (K : PySem.W.Frag) (cs : List Cv) (m : Mem) (Kc : Cv → Mem → Prop) (KE : Xn → Mem → Prop) (h : sp_load_of K cs m Kc KE) :
    r_load_of K { nx := fun _ m => exK false Kc (.p .non) m, rt := exK false Kc, ex := fun x _ m => KE x m.tail } (entry N_load_of cs) ([] :: m) := by
  obtain ⟨ts, p, rfl, hl, k⟩ := h
  refine lc_tp (fun t => passB t p) tpD ts hl (fun t ht Kt hk => ?_) ?_
  · exact ⟨rfl, t, p, rfl, hk _ fun Kc h1 h2 => h1 h2⟩
  · show Kc (.p (.int (List.map tpD _).length)) m
    rw [List.length_map]
    exact k
theorem len_Line_load {K : PySem.W.Frag} : ∀ cs m Kc KE, sp_Line_load K cs m Kc KE → cs.length = 2 := by rintro cs m Kc KE ⟨_, _, _, _, rfl, _⟩; rfl
theorem pl_Line_load (K : PySem.W.Frag) (cs : List Cv) (m : Mem) (Kc : Cv → Mem → Prop) (KE : Xn → Mem → Prop) (h : sp_Line_load K cs m Kc KE) :
    r_Line_load K { nx := fun _ m => exK false Kc (.p .non) m, rt := exK false Kc, ex := fun x _ m => KE x m.tail } (entry N_Line_load cs) ([] :: m) := by
  obtain ⟨w, ts, rs, p, rfl, hp, hl, k⟩ := h
  refine ⟨rfl, .int p, 0, rfl, trivial, ?_⟩
  have e : fromD 0 (.int p) = true := decide_eq_true hp
  rw [e]
  exact ⟨rfl, rfl, ts, p, rfl, hl, k⟩
theorem len_overfull {K : PySem.W.Frag} : ∀ cs m Kc KE, sp_overfull K cs m Kc KE → cs.length = 1 := by rintro cs m Kc KE ⟨_, _, _, rfl, _⟩; rfl
theorem pl_overfull (K : PySem.W.Frag) (cs : List Cv) (m : Mem) (Kc : Cv → Mem → Prop) (KE : Xn → Mem → Prop) (h : sp_overfull K cs m Kc KE) :
    r_overfull K { nx := fun _ m => exK false Kc (.p .non) m, rt := exK false Kc, ex := fun x _ m => KE x m.tail } (entry N_overfull cs) ([] :: m) := by
  obtain ⟨w, ts, rs, rfl, hL, k⟩ := h
  have h24 := hL.val.len
  refine ⟨rfl, w, ts, rs, rfl, rfl, ?_⟩
  refine forW_go (fun j g m' => m' = [] :: m ∧ (∃ x, g = [some (.p (lineD K w ts rs)), x]) ∧ ∀ t ∈ rs.take j, ¬ w < (loadN ts t.2.1 : Nat)) ⟨rfl, ⟨_, rfl⟩, fun t ht => (by cases ht)⟩ (fun _ _ _ _ => trivial) ?_ ?_
  · rintro j d g m' hd ⟨rfl, ⟨x, rfl⟩, hn⟩ N hN
    rw [List.getElem?_map] at hd
    obtain ⟨t, ht, rfl⟩ := Option.map_eq_some_iff.mp hd
    have hm : t ∈ ts := hL.rows.perm.mem_iff.mp (List.mem_of_getElem? ht)
    refine ⟨rfl, rfl, rfl, w, ts, rs, t.2.1, rfl, (hL.val.ok t hm).2.1, by omega, rfl, w, ts, rs, rfl, ?_⟩
    refine ite_b (b := decide (w < (loadN ts t.2.1 : Nat))) (fun e => ?_) fun e => ?_
    · have e := of_decide_eq_true e
      have hf : rs.find? (fun t => decide (w < (loadN ts t.2.1 : Nat))) = some t := by
        rw [List.find?_eq_some_iff_append]
        refine ⟨decide_eq_true e, rs.take j, rs.drop (j + 1), ?_, fun u hu => by simpa using hn u hu⟩
        obtain ⟨hj, rfl⟩ := List.getElem?_eq_some_iff.mp ht
        rw [← List.drop_eq_getElem_cons hj, List.take_append_drop]
      unfold overD at k
      rw [hf] at k
      exact k
    · refine hN _ _ ⟨rfl, ⟨_, rfl⟩, fun u hu => ?_⟩
      rw [List.take_add_one, ht] at hu
      rcases List.mem_append.mp hu with hu | hu
      · exact hn u hu
      · rw [List.mem_singleton.mp hu]
        exact of_decide_eq_false e
  · rintro g m' ⟨rfl, ⟨x, rfl⟩, hn⟩
    rw [List.length_map, List.take_length] at hn
    have hf : rs.find? (fun t => decide (w < (loadN ts t.2.1 : Nat))) = none := List.find?_eq_none.mpr fun t ht => by simpa using hn t ht
    unfold overD at k
    rw [hf] at k
    exact k
theorem len__law_told {K : PySem.W.Frag} : ∀ cs m Kc KE, sp__law_told K cs m Kc KE → cs.length = 2 := by rintro cs m Kc KE ⟨_, _, rfl, _⟩; rfl
theorem pl__law_told (K : PySem.W.Frag) (cs : List Cv) (m : Mem) (Kc : Cv → Mem → Prop) (KE : Xn → Mem → Prop) (h : sp__law_told K cs m Kc KE) :
    r__law_told K { nx := fun _ m => exK false Kc (.p .non) m, rt := exK false Kc, ex := fun x _ m => KE x m.tail } (entry N__law_told cs) ([] :: m) := by
  obtain ⟨w, ts, rfl, w1, w2, hv, hn, k⟩ := h
  have eN : entry N__law_told [.p (.int w), .p (.tup (ts.map tpD))] = [some (.p (.int w)), some (.p (.tup (ts.map tpD))), none, none, none, none] := rfl
  have h24 := hv.len
  unfold r__law_told
  rw [eN]
  simp only [rTe, rTr, rOp, rUn, rVar, rC, rSet, rSeq, rRet, rRetN, rIfS, rPass, rDrop, rAsg, rNil, rCons, rTup, rLst, rCB, rAnd, rOr, rNot, rAndV, rOrV, rIf, rNotV, rgName, rgTup, rgCons, rgNil, rgSub, rCallG, callK, rA0, rA1, rAK0, rAK, rFld, rIt, rLc, rLcK, rPar, rPar3, entry, shc, wipeG, allDat, datsOf, slot, put, view_p, List.nil_append, List.cons_append, List.map_cons, List.map_nil, Option.map_some, true_and, and_true, if_true, Bool.false_eq_true, if_false, addF_ii, addF_ss, addF_ll, addF_tt, iF_ii, mulF_ii, mulF_si, mulF_li, eqF_ii, eqF_ss, eqF_bb, neF_ii, neF_ss, neF_bb, cmF_ii, cmF_ss, at0, at1, at2, ixF_l, ixF_t, ixF_c, ixF_s, lenF_s, lenF_l, lenF_t, lenF_c, absF_i, maxF_ii, minF_ii, divmodF_ii, isF_n, isF_b, blC_b, blD_b, truD_b, truD_i, truD_n, truD_l, truD_t, c1F_1, c2F_2, starD_t, starD_l, isiF_eq, isiCF_eq]
  refine ⟨rfl, rfl, fun p0 => ⟨0, 0, p0, w, ts, rfl, rfl, w1, w2, hv, fun rs hrs => ⟨rfl, ?_⟩⟩⟩
  have hL : LineOk w ts rs := ⟨w1, w2, hv, hrs⟩
  have hrl := row_tp hrs
  refine ⟨rfl, ts, hv, rfl, fun rs2 hr2 => ?_⟩
  obtain rfl := rows_uniq hv.asc hrs hr2
  refine lc_tp (fun t => decide (w < (loadN ts t.2.1 : Nat))) (fun t => .int t.2.1) rs (by omega) (fun t ht Kt hk => ?_) ?_
  · exact ⟨rfl, _, ts, t.2.1, rfl, .inl rfl, by omega, hk _ fun Kc h1 h2 => h1 h2⟩
  refine ⟨by decide, by rw [sizeLine_eq]; have := List.length_filter_le (fun t : Tp => decide (w < (loadN ts t.2.1 : Nat))) rs; simp only [List.length_map, List.length_cons, List.length_nil]; omega, ?_⟩
  rw [over_at]
  refine ⟨rfl, w, ts, rfl, hv, by omega, by omega, fun rs3 hr3 => ?_⟩
  obtain rfl := rows_uniq hv.asc hrs hr3
  refine ⟨by show 2 ≤ sizeLine; decide, rfl, w, ts, rs, rfl, hL, rfl, w, ts, rs, rfl, hL, by show 2 ≤ sizeLine; decide, rfl, w, ts, rs, rfl, hL, rfl, w, ts, rs, rfl, hL, by show 2 ≤ sizeLine; decide, by show 4 ≤ sizeLine; decide, ?_⟩
  have s1 := over_sh hL hn
  have s2 := prod_sh hL
  have sh : Sh (0 + 1 + (0 + 1 + (0 + 1 + (0 + 1 + 0)))) 1 (.lst [overD w ts rs, .int (prodI (sizeL w rs)), overD w ts rs, .int (prodI (sizeL w rs))]) := .lst (.cons s1 (.cons s2 (.cons s1 (.cons s2 .nil))))
  refine reprF_ok rfl sh (by decide) (by decide) ⟨by decide, by decide, by show 4 ≤ sizeLine; decide, reprF_ok rfl sh (by decide) (by decide) ?_⟩
  exact dec_same (K := fun d => Kc (.p d) m) k _ _ rfl
theorem len__law_draw {K : PySem.W.Frag} : ∀ cs m Kc KE, sp__law_draw K cs m Kc KE → cs.length = 2 := by rintro cs m Kc KE ⟨_, _, _, _, _, _, _, rfl, _⟩; rfl
theorem pl__law_draw (K : PySem.W.Frag) (cs : List Cv) (m : Mem) (Kc : Cv → Mem → Prop) (KE : Xn → Mem → Prop) (h : sp__law_draw K cs m Kc KE) :
    r__law_draw K { nx := fun _ m => exK false Kc (.p .non) m, rt := exK false Kc, ex := fun x _ m => KE x m.tail } (entry N__law_draw cs) ([] :: m) := by
  obtain ⟨n, i, a, s, d, c, many, rfl, hg, h1, h2, k⟩ := h
  have eN : entry N__law_draw [.l n i, .p (.int many)] = [some (.l (n + 1) i), some (.p (.int many)), none, none] := rfl
  have g0 : ∀ {x y z : Int}, mget ([] :: mset m n i (.lst [.int x, .int y, .int z])) (n + 1) i = some (a, .lst [.int x, .int y, .int z]) := fun {x y z} => mget_mset (m := m) hg
  have gg : mget ([] :: m) (n + 1) i = some (a, .lst [.int s, .int d, .int c]) := hg
  have st : ∀ {x y z : Int} {lo : Lo}, mset ([] :: mset m n i (.lst [.int x, .int y, .int z])) (n + 1) i lo = [] :: mset m n i lo := fun {x y z lo} => congrArg ([] :: ·) mset_mset
  have s0 : ∀ {lo : Lo}, mset ([] :: m) (n + 1) i lo = [] :: mset m n i lo := rfl
  have w0 : ∀ {x y z : Int}, view ([] :: mset m n i (.lst [.int x, .int y, .int z])) (.l (n + 1) i) = .lst [.int x, .int y, .int z] := fun {x y z} => view_l g0
  have gv : view ([] :: m) (.l (n + 1) i) = .lst [.int s, .int d, .int c] := view_l gg
  have go : ∀ {k : Nat → Nat → List Dat → Prop}, onL ([] :: m) (.l (n + 1) i) k = k (n + 1) i [.int s, .int d, .int c] := fun {k} => onL_eq gg
  have g1 : ∀ {x y z : Int} {k : Nat → Nat → List Dat → Prop}, onL ([] :: mset m n i (.lst [.int x, .int y, .int z])) (.l (n + 1) i) k = k (n + 1) i [.int x, .int y, .int z] := fun {x y z k} => onL_eq g0
  have i0 : ∀ {x y z : Dat}, ixN [x, y, z].length 0 = some 0 := rfl
  have i1 : ∀ {x y z : Dat}, ixN [x, y, z].length 1 = some 1 := rfl
  have i2 : ∀ {x y z : Dat}, ixN [x, y, z].length 2 = some 2 := rfl
  have t0 : ∀ {x y z u : Dat}, [x, y, z].set 0 u = [u, y, z] := rfl
  have t1 : ∀ {x y z u : Dat}, [x, y, z].set 1 u = [x, u, z] := rfl
  have t2 : ∀ {x y z u : Dat}, [x, y, z].set 2 u = [x, y, u] := rfl
  unfold r__law_draw
  rw [eN]
  simp only [rTe, rTr, rOp, rUn, rVar, rC, rSet, rSeq, rRet, rRetN, rIfS, rPass, rDrop, rAsg, rNil, rCons, rTup, rLst, rCB, rAnd, rOr, rNot, rAndV, rOrV, rIf, rNotV, rgName, rgTup, rgCons, rgNil, rgSub, rCallG, callK, rA0, rA1, rAK0, rAK, rFld, rIt, rLc, rLcK, rPar, rPar3, entry, shc, wipeG, allDat, datsOf, slot, put, view_p, List.nil_append, List.cons_append, List.map_cons, List.map_nil, Option.map_some, true_and, and_true, if_true, Bool.false_eq_true, if_false, addF_ii, addF_ss, addF_ll, addF_tt, iF_ii, mulF_ii, mulF_si, mulF_li, eqF_ii, eqF_ss, eqF_bb, neF_ii, neF_ss, neF_bb, cmF_ii, cmF_ss, at0, at1, at2, ixF_l, ixF_t, ixF_c, ixF_s, lenF_s, lenF_l, lenF_t, lenF_c, absF_i, maxF_ii, minF_ii, divmodF_ii, isF_n, isF_b, blC_b, blD_b, truD_b, truD_i, truD_n, truD_l, truD_t, c1F_1, c2F_2, starD_t, starD_l, isiF_eq, isiCF_eq, gv, go, g1, w0, s0, st, i0, i1, i2, t0, t1, t2]
  have p46 : 0 ≤ s % 46007 := Int.emod_nonneg _ (by decide)
  have q46 : s % 46007 < 46007 := Int.emod_lt_of_pos _ (by decide)
  have e64 : (2 : Int) ^ 64 = 18446744073709551616 := by decide
  refine ⟨by decide, .inr ⟨by omega, by omega⟩, .inl ⟨by decide, by decide⟩, by decide, ?_⟩
  refine ite_b (fun e => ?_) fun e => ?_
  · exact ⟨⟨h1, PyProof.noPylong_small (by omega)⟩, rfl, k _ _ _ _ (Int.emod_nonneg _ (by omega)) (Int.emod_lt_of_pos _ h1)⟩
  · exact ⟨⟨by decide, by decide⟩, h1, k _ _ _ _ (Int.emod_nonneg _ (by omega)) (Int.emod_lt_of_pos _ h1)⟩
theorem len__law_far {K : PySem.W.Frag} : ∀ cs m Kc KE, sp__law_far K cs m Kc KE → cs.length = 2 := by rintro cs m Kc KE ⟨_, _, _, _, _, _, _, rfl, _⟩; rfl
theorem far_next {ps : List Int} {way here k v : Int} {j : Nat} (hk : k = (j : Int)) (hp : ∀ p ∈ ps, 0 ≤ p ∧ p < if way > 0 then (j : Int) else here) (ha : ps.Pairwise (· < ·)) (h0 : 0 ≤ here) (h1 : here ≤ (j : Int) * 1000000000000000000000000000000 + 2)
    (hv : 0 ≤ v) (hv1 : v ≤ 100000000000000000000000000000) : (∀ p ∈ ps ++ [if way > 0 then k else here], 0 ≤ p ∧ p < if way > 0 then ((j + 1 : Nat) : Int) else here + 1 + v) ∧ (ps ++ [if way > 0 then k else here]).Pairwise (· < ·) ∧ 0 ≤ here + 1 + v ∧ here + 1 + v ≤ ((j + 1 : Nat) : Int) * 1000000000000000000000000000000 + 2 := by
  subst hk
  refine ⟨fun p h => ?_, List.pairwise_append.mpr ⟨ha, List.pairwise_singleton .., fun a h b hb => ?_⟩, by omega, by omega⟩
  · rcases List.mem_append.mp h with h | h
    · have := hp p h
      split at this <;> split <;> omega
    · rw [List.mem_singleton.mp h]
      split <;> omega
  · rw [List.mem_singleton.mp hb]
    have := hp a h
    split at this <;> split <;> omega
theorem pl__law_far (K : PySem.W.Frag) (cs : List Cv) (m : Mem) (Kc : Cv → Mem → Prop) (KE : Xn → Mem → Prop) (h : sp__law_far K cs m Kc KE) :
    r__law_far K { nx := fun _ m => exK false Kc (.p .non) m, rt := exK false Kc, ex := fun x _ m => KE x m.tail } (entry N__law_far cs) ([] :: m) := by
  obtain ⟨n, i, a, s, d, c, hi, rfl, hg, hh, k⟩ := h
  have eN : entry N__law_far [.l n i, .p (.int hi)] = [some (.l (n + 1) i), some (.p (.int hi)), none, none, none, none] := rfl
  unfold r__law_far
  rw [eN]
  have e62 : (2 : Int) ^ 62 = 4611686018427387904 := by decide
  have big : CPow 10 29 := ⟨by decide, by decide, by decide⟩
  simp only [rTe, rTr, rOp, rUn, rVar, rC, rSet, rSeq, rRet, rRetN, rIfS, rPass, rDrop, rAsg, rNil, rCons, rTup, rLst, rCB, rAnd, rOr, rNot, rAndV, rOrV, rIf, rNotV, rgName, rgTup, rgCons, rgNil, rgSub, rCallG, callK, rA0, rA1, rAK0, rAK, rFld, rIt, rLc, rLcK, rPar, rPar3, entry, shc, wipeG, allDat, datsOf, slot, put, view_p, List.nil_append, List.cons_append, List.map_cons, List.map_nil, Option.map_some, true_and, and_true, if_true, Bool.false_eq_true, if_false, addF_ii, addF_ss, addF_ll, addF_tt, iF_ii, mulF_ii, mulF_si, mulF_li, eqF_ii, eqF_ss, eqF_bb, neF_ii, neF_ss, neF_bb, cmF_ii, cmF_ss, at0, at1, at2, ixF_l, ixF_t, ixF_c, ixF_s, lenF_s, lenF_l, lenF_t, lenF_c, absF_i, maxF_ii, minF_ii, divmodF_ii, isF_n, isF_b, blC_b, blD_b, truD_b, truD_i, truD_n, truD_l, truD_t, c1F_1, c2F_2, starD_t, starD_l, isiF_eq, isiCF_eq, rNewL, newLst, rRg1]
  refine ⟨by decide, fun p0 => ⟨rfl, n + 1, i, a, s, d, c, 3, rfl, hg, by decide, by decide, fun here s1 d1 c1 b0 b1 => ?_⟩⟩
  have g1 : mget ([(p0, Lo.lst [])] :: mset m n i (poolL s1 d1 c1)) (n + 1) i = some (a, poolL s1 d1 c1) := mget_mset (m := m) hg
  refine ⟨rfl, n + 1, i, a, s1, d1, c1, 3, rfl, g1, by decide, by decide, fun way s2 d2 c2 w0 w1 => ?_⟩
  have e2 : mset (mset ([(p0, Lo.lst [])] :: m) (n + 1) i (poolL s1 d1 c1)) (n + 1) i (poolL s2 d2 c2) = [(p0, Lo.lst [])] :: mset m n i (poolL s2 d2 c2) := congrArg ([(p0, Lo.lst [])] :: ·) mset_mset
  rw [mset_mset]
  refine ⟨⟨by omega, by omega⟩, ?_⟩
  refine forW_go (fun j g m' => ∃ (ps : List Int) (hr x y z : Int) (u : Option Cv), g = [some (.l (n + 1) i), some (.p (.int hi)), some (.l 0 0), some (.p (.int hr)), some (.p (.int way)), u] ∧ m' = [(p0, Lo.lst (ps.map .int))] :: mset m n i (poolL x y z) ∧ ps.length = j ∧
    (∀ p ∈ ps, 0 ≤ p ∧ p < if way > 0 then (j : Int) else hr) ∧ ps.Pairwise (· < ·) ∧ 0 ≤ hr ∧ hr ≤ (j : Int) * 1000000000000000000000000000000 + 2) ⟨[], here, s2, d2, c2, none, rfl, rfl, rfl, fun p h => (by cases h), .nil, b0, by omega⟩ (fun _ _ _ _ => trivial) ?_ ?_
  · rintro j dd g m' hd ⟨ps, hr, x, y, z, u, rfl, rfl, hl, hp, hpw, q0, q1⟩ N hN
    obtain ⟨hj, rfl⟩ : j < hi + 1 ∧ dd = .int (j : Int) := by
      unfold rngD at hd
      rw [List.getElem?_map] at hd
      obtain ⟨t, ht, rfl⟩ := Option.map_eq_some_iff.mp hd
      obtain ⟨h1, h2⟩ := List.getElem?_eq_some_iff.mp ht
      rw [List.length_range] at h1
      rw [List.getElem_range] at h2
      subst h2
      exact ⟨by omega, by rw [Int.zero_add]⟩
    have hl0 : ps.length < sizeLine := by rw [sizeLine_eq]; omega
    have o1 : ∀ k : Nat → Nat → List Dat → Prop, onL ([(p0, Lo.lst (ps.map .int))] :: mset m n i (poolL x y z)) (.l 0 0) k = k 0 0 (ps.map .int) := fun k => rfl
    simp only [rTe, rTr, rOp, rUn, rVar, rC, rSet, rSeq, rRet, rRetN, rIfS, rPass, rDrop, rAsg, rNil, rCons, rTup, rLst, rCB, rAnd, rOr, rNot, rAndV, rOrV, rIf, rNotV, rgName, rgTup, rgCons, rgNil, rgSub, rCallG, callK, rA0, rA1, rAK0, rAK, rFld, rIt, rLc, rLcK, rPar, rPar3, entry, shc, wipeG, allDat, datsOf, slot, put, view_p, List.nil_append, List.cons_append, List.map_cons, List.map_nil, Option.map_some, true_and, and_true, if_true, Bool.false_eq_true, if_false, addF_ii, addF_ss, addF_ll, addF_tt, iF_ii, mulF_ii, mulF_si, mulF_li, eqF_ii, eqF_ss, eqF_bb, neF_ii, neF_ss, neF_bb, cmF_ii, cmF_ss, at0, at1, at2, ixF_l, ixF_t, ixF_c, ixF_s, lenF_s, lenF_l, lenF_t, lenF_c, absF_i, maxF_ii, minF_ii, divmodF_ii, isF_n, isF_b, blC_b, blD_b, truD_b, truD_i, truD_n, truD_l, truD_t, c1F_1, c2F_2, starD_t, starD_l, isiF_eq, isiCF_eq, rMl, o1, appF]
    have hm2 : ∀ (w : Int) (x1 y1 z1 x2 y2 z2 : Int), mset (mset (mset ([(p0, Lo.lst (ps.map .int))] :: mset m n i (poolL x y z)) 0 0 (Lo.lst (ps.map .int ++ [Dat.int w]))) (n + 1) i (poolL x1 y1 z1)) (n + 1) i (poolL x2 y2 z2) = [(p0, Lo.lst ((ps ++ [w]).map .int))] :: mset m n i (poolL x2 y2 z2) := fun w x1 y1 z1 x2 y2 z2 => by
      rw [List.map_append]
      exact congrArg ([(p0, Lo.lst (ps.map Dat.int ++ [Dat.int w]))] :: ·) (mset_mset.trans mset_mset)
    have stp : ∀ (w v : Int) (x2 y2 z2 : Int), w = (if way > 0 then (j : Int) else hr) → 0 ≤ v → v ≤ 100000000000000000000000000000 → N [some (.l (n + 1) i), some (.p (.int hi)), some (.l 0 0), some (.p (.int (hr + 1 + v))), some (.p (.int way)), some (.p (.int j))] ([(p0, Lo.lst ((ps ++ [w]).map .int))] :: mset m n i (poolL x2 y2 z2)) := fun w v x2 y2 z2 hw h0 h1 => by
      subst hw
      have := far_next (k := (j : Int)) rfl hp hpw q0 q1 h0 h1
      exact hN _ _ ⟨_, _, x2, y2, z2, _, rfl, rfl, by rw [List.length_append, hl]; rfl, this.1, this.2.1, this.2.2.1, this.2.2.2⟩
    refine ite_b (fun e => ?_) fun e => ?_
    · have hw : (j : Int) = if way > 0 then (j : Int) else hr := by rw [if_pos (of_decide_eq_true e)]
      refine ⟨by rw [List.length_map]; exact hl0, rfl, n + 1, i, a, x, y, z, 9, rfl, mget_mset (m := m) hg, by decide, by decide, fun v x1 y1 z1 v0 v1 => ⟨big, by show 3 ≤ sizeLine; decide, rfl, n + 1, i, a, x1, y1, z1, 3, rfl, mget_mset (m := mset m n i (poolL x y z)) (n := n) (mget_mset hg), by decide, by decide, fun t x2 y2 z2 t0 t1 => ?_⟩⟩
      rw [hm2]
      obtain rfl | rfl | rfl : t = 0 ∨ t = 1 ∨ t = 2 := by omega
      · exact ixF_lst at0 (stp _ _ _ _ _ hw (by decide) (by decide))
      · exact ixF_lst at1 (stp _ _ _ _ _ hw v0 (by omega))
      · exact ixF_lst at2 (stp _ _ _ _ _ hw (by decide) (by decide))
    · have hw : hr = if way > 0 then (j : Int) else hr := by rw [if_neg (of_decide_eq_false e)]
      refine ⟨by rw [List.length_map]; exact hl0, rfl, n + 1, i, a, x, y, z, 9, rfl, mget_mset (m := m) hg, by decide, by decide, fun v x1 y1 z1 v0 v1 => ⟨big, by show 3 ≤ sizeLine; decide, rfl, n + 1, i, a, x1, y1, z1, 3, rfl, mget_mset (m := mset m n i (poolL x y z)) (n := n) (mget_mset hg), by decide, by decide, fun t x2 y2 z2 t0 t1 => ?_⟩⟩
      rw [hm2]
      obtain rfl | rfl | rfl : t = 0 ∨ t = 1 ∨ t = 2 := by omega
      · exact ixF_lst at0 (stp _ _ _ _ _ hw (by decide) (by decide))
      · exact ixF_lst at1 (stp _ _ _ _ _ hw v0 (by omega))
      · exact ixF_lst at2 (stp _ _ _ _ _ hw (by decide) (by decide))
  · rintro g m' ⟨ps, hr, x, y, z, u, rfl, rfl, hl, hp, hpw, q0, q1⟩
    rw [rngD_len] at hl hp q1
    have w : ∀ p ∈ ps, 0 ≤ p ∧ p ≤ 10000000000000000000000000000000000 := fun p h => by
      have := hp p h
      split at this <;> omega
    exact k ps x y z ⟨w, hpw⟩ (by omega)
theorem len__law_rides {K : PySem.W.Frag} : ∀ cs m Kc KE, sp__law_rides K cs m Kc KE → cs.length = 3 := by rintro cs m Kc KE ⟨_, _, _, _, _, _, _, _, rfl, _⟩; rfl
theorem far_at {ps : List Int} {b : Int} (h0 : 0 ≤ b) (h1 : b < ps.length) : atI (ps.map Dat.int) b = some (.int (ps.getD b.toNat 0)) := by
  have hl : b.toNat < ps.length := by omega
  have q : (ps.map Dat.int)[b.toNat]? = some (.int (ps.getD b.toNat 0)) := by
    rw [List.getElem?_map, List.getD_eq_getElem?_getD, List.getElem?_eq_getElem hl]; rfl
  have := atI_nat q
  rwa [Int.toNat_of_nonneg h0] at this
theorem far_lt {ps : List Int} (h : ps.Pairwise (· < ·)) {b e : Int} (h0 : 0 ≤ b) (h1 : b < e) (h2 : e < ps.length) : ps.getD b.toNat 0 < ps.getD e.toNat 0 := by
  rw [List.getD_eq_getElem?_getD, List.getD_eq_getElem?_getD, List.getElem?_eq_getElem (by omega : b.toNat < ps.length), List.getElem?_eq_getElem (by omega : e.toNat < ps.length)]
  exact List.pairwise_iff_getElem.mp h b.toNat e.toNat (by omega) (by omega) (by omega)
theorem far_mem {ps : List Int} {b : Int} (h0 : 0 ≤ b) (h1 : b < ps.length) : ps.getD b.toNat 0 ∈ ps := by
  rw [List.getD_eq_getElem?_getD, List.getElem?_eq_getElem (by omega : b.toNat < ps.length)]
  exact List.getElem_mem _
def rideR (t : Tp) : List Dat := [.str t.1, .int t.2.1, .int t.2.2]
/-- rides of words that differ, sorted, are trips of a line -/
theorem rides_valid {ws : List Str} {us rs : List Tp} (hw : WordsOk ws) (hl : ws.length ≤ 24) (hu : us.map (·.1) = ws) (ho : ∀ t ∈ us, 0 ≤ t.2.1 ∧ t.2.1 < t.2.2 ∧ t.2.2 ≤ 10000000000000000000000000000000000) (hp : rs.Perm us)
    (hs : rs.Pairwise fun a b => ltR 3 (rideR b) (rideR a) = false) : RidesOk ws rs := by
  have hn : (rs.map (·.1)).Nodup := (hp.map (·.1)).nodup_iff.mpr (hu ▸ hw.nd)
  have hm : ∀ t ∈ rs, t.1 ∈ ws := fun t ht => by
    rw [← hu]
    exact List.mem_map_of_mem (hp.mem_iff.mp ht)
  have len : rs.length = ws.length := by rw [hp.length_eq, ← hu, List.length_map]
  refine ⟨⟨by omega, fun t ht => ⟨hw.ok _ (hm t ht), (ho t (hp.mem_iff.mp ht)).1, (ho t (hp.mem_iff.mp ht)).2.1⟩, ?_⟩, len, hm, fun t ht => (ho t (hp.mem_iff.mp ht)).2.2⟩
  have hd : rs.Pairwise fun a b => a.1 ≠ b.1 := List.pairwise_map.mp hn
  refine List.Pairwise.imp (fun {a b} h => ?_) (hs.and hd)
  obtain ⟨h1, h2⟩ := h
  have h3 : itemOrd.blt (Sum.inr b.1.cps.toList) (Sum.inr a.1.cps.toList) = false := by
    have ne : (Sum.inr b.1.cps.toList : itemOrd.α) ≠ Sum.inr a.1.cps.toList := fun e => h2 (str_inj (Sum.inr.inj e).symm)
    rw [← lex_diff (O := itemOrd) (r := [Sum.inl b.2.1, Sum.inl b.2.2]) (t := [Sum.inl a.2.1, Sum.inl a.2.2]) ne]
    exact h1
  have h4 : ¬ b.1.cps.toList < a.1.cps.toList := of_decide_eq_false h3
  have h5 := List.not_lt.mp h4
  rcases List.le_iff_lt_or_eq.mp h5 with h | h
  · exact h
  · exact absurd (str_inj h) h2
theorem rides_rows {ws : List Str} {us : List Tp} (hw : WordsOk ws) (hu : us.map (·.1) = ws) : RowsOk (fun i => i == 0) 3 3 (us.map rideR) := by
  refine ⟨by decide, by decide, fun r hr => ?_, fun i j ri rj hi hj e => .inr rfl⟩
  obtain ⟨t, _, rfl⟩ := List.mem_map.mp hr
  exact ⟨rfl, rfl⟩
/-- what the loop does when the start is chosen -/
def rides_tail (K : PySem.W.Frag) : RS := (rSeq (rSet 5 (rOp addF (rOp addF (rVar 8) (rC (.int 1))) (rCallG 2 (sp__law_draw K) (fun cs _ => cs) [] (rA1 (rCons (rVar 0) (rCons (rIf (rTe (rOp gtF (rOp (iF (fun _ _ => True) fun i j => i - j) (rVar 2) (rVar 8)) (rC (.int 1)))) (rOp ixF (rLst (rCons (rC (.int 1)) (rCons (rC (.int 2)) (rCons (rOp (iF (fun _ _ => True) fun i j => i - j) (rVar 2) (rVar 8)) (rCons (rOp (iF (fun _ _ => True) fun i j => i - j) (rVar 2) (rVar 8)) rNil))))) (rVar 7)) (rC (.int 1))) rNil))))))
  (rSeq (rSet 5 (rCB min2F (rCons (rVar 5) (rCons (rVar 2) rNil))))
  (rDrop (rMl appF (rVar 4) (rCons (rTup (rCons (rVar 6) (rCons (rOp ixF (rVar 3) (rVar 8)) (rCons (rOp ixF (rVar 3) (rVar 5)) rNil)))) rNil)))))
theorem rides_tail_ok {K : PySem.W.Frag} {E : DEnds} {n i : Nat} {a p0 : Addr} {x y z la way b : Int} {hi : Nat} {m : Mem} {ws wd : Dat} {ps : List Int} {us : List Dat} {u8 : Str} (hwd : wd = .str u8) (hg : mget m n i = some (a, poolL x y z)) (hps : ps.length = hi + 1) (hb0 : 0 ≤ b) (hb1 : b < hi) (hh : hi ≤ 1000) (w0 : 0 ≤ way) (w1 : way < 4) (hl0 : us.length < sizeLine)
    (hN : ∀ (l x' y' z' : Int), b < l → l ≤ hi → E.nx [some (.l (n + 1) i), some (.p ws), some (.p (.int hi)), some (.p (.lst (ps.map .int))), some (.l 0 0), some (.p (.int l)), some (.p wd), some (.p (.int way)), some (.p (.int b))]
      ([(p0, Lo.lst (us ++ [tpD (u8, ps.getD b.toNat 0, ps.getD l.toNat 0)]))] :: mset m n i (poolL x' y' z'))) :
    rides_tail K E [some (.l (n + 1) i), some (.p ws), some (.p (.int hi)), some (.p (.lst (ps.map .int))), some (.l 0 0), some (.p (.int la)), some (.p wd), some (.p (.int way)), some (.p (.int b))] ([(p0, Lo.lst us)] :: m) := by
  subst hwd
  have fin : ∀ r x' y' z' : Int, 0 ≤ r → r < hi → rSeq (rSet 5 (rCB min2F (rCons (rVar 5) (rCons (rVar 2) rNil)))) (rDrop (rMl appF (rVar 4) (rCons (rTup (rCons (rVar 6) (rCons (rOp ixF (rVar 3) (rVar 8)) (rCons (rOp ixF (rVar 3) (rVar 5)) rNil)))) rNil))) E
      [some (.l (n + 1) i), some (.p ws), some (.p (.int hi)), some (.p (.lst (ps.map .int))), some (.l 0 0), some (.p (.int (b + 1 + r))), some (.p (.str u8)), some (.p (.int way)), some (.p (.int b))] ([(p0, Lo.lst us)] :: mset m n i (poolL x' y' z')) := fun r x' y' z' h0 h1 => by
    refine .inl ?_
    have hl1 : b < (if (hi : Int) < b + 1 + r then (hi : Int) else b + 1 + r) ∧ (if (hi : Int) < b + 1 + r then (hi : Int) else b + 1 + r) ≤ hi := by split <;> omega
    have q := hN _ x' y' z' hl1.1 hl1.2
    refine ixF_lst (far_at hb0 (by omega)) ?_
    refine ixF_lst (far_at (ps := ps) (b := if (hi : Int) < b + 1 + r then (hi : Int) else b + 1 + r) (by omega) (by omega)) ?_
    exact ⟨by show 3 ≤ sizeLine; decide, hl0, q⟩
  have drw : ∀ many : Int, 0 < many → many ≤ hi → sp__law_draw K [.l (n + 1) i, .p (.int many)] ([(p0, Lo.lst us)] :: m) (fun e m2 => addF (.int (b + 1)) (view m2 e) fun d => rSeq (rSet 5 (rCB min2F (rCons (rVar 5) (rCons (rVar 2) rNil)))) (rDrop (rMl appF (rVar 4) (rCons (rTup (rCons (rVar 6) (rCons (rOp ixF (rVar 3) (rVar 8)) (rCons (rOp ixF (rVar 3) (rVar 5)) rNil)))) rNil))) E
      [some (.l (n + 1) i), some (.p ws), some (.p (.int hi)), some (.p (.lst (ps.map .int))), some (.l 0 0), some (.p d), some (.p (.str u8)), some (.p (.int way)), some (.p (.int b))] m2) fun x m' => E.ex x [some (.l (n + 1) i), some (.p ws), some (.p (.int hi)), some (.p (.lst (ps.map .int))), some (.l 0 0), some (.p (.int la)), some (.p (.str u8)), some (.p (.int way)), some (.p (.int b))] m' := fun many h0 h1 =>
    ⟨n + 1, i, a, x, y, z, many, rfl, hg, h0, by omega, fun r x' y' z' r0 r1 => fin r x' y' z' r0 (by omega)⟩
  refine ⟨trivial, ?_⟩
  refine ite_b (b := decide ((1 : Int) < hi - b)) (fun e => ?_) fun e => ?_
  · have e := of_decide_eq_true e
    refine ⟨trivial, trivial, by show 4 ≤ sizeLine; decide, ?_⟩
    simp only [rVar, slot0, slotS, view_p]
    obtain rfl | rfl | rfl | rfl : way = 0 ∨ way = 1 ∨ way = 2 ∨ way = 3 := by omega
    · refine ixF_lst (ds := [.int 1, .int 2, .int (hi - b), .int (hi - b)]) (i := 0) at0 ?_
      exact ⟨rfl, drw _ (by decide) (by omega)⟩
    · refine ixF_lst (ds := [.int 1, .int 2, .int (hi - b), .int (hi - b)]) (i := 1) at1 ?_
      exact ⟨rfl, drw _ (by decide) (by omega)⟩
    · refine ixF_lst (ds := [.int 1, .int 2, .int (hi - b), .int (hi - b)]) (i := 2) at2 ?_
      exact ⟨rfl, drw _ (by omega) (by omega)⟩
    · refine ixF_lst (ds := [.int 1, .int 2, .int (hi - b), .int (hi - b)]) (i := 3) at3 ?_
      exact ⟨rfl, drw _ (by omega) (by omega)⟩
  · exact ⟨rfl, drw _ (by decide) (by omega)⟩
theorem pl__law_rides (K : PySem.W.Frag) (cs : List Cv) (m : Mem) (Kc : Cv → Mem → Prop) (KE : Xn → Mem → Prop) (h : sp__law_rides K cs m Kc KE) :
    r__law_rides K { nx := fun _ m => exK false Kc (.p .non) m, rt := exK false Kc, ex := fun x _ m => KE x m.tail } (entry N__law_rides cs) ([] :: m) := by
  obtain ⟨n, i, a, s, d, c, ws, hi, rfl, hg, hw, hl, hi1, hi2, k⟩ := h
  have eN : entry N__law_rides [.l n i, .p (.lst (ws.map .str)), .p (.int hi)] = [some (.l (n + 1) i), some (.p (.lst (ws.map .str))), some (.p (.int hi)), none, none, none, none, none, none] := rfl
  unfold r__law_rides
  rw [eN]
  simp only [rTe, rTr, rOp, rUn, rVar, rC, rSet, rSeq, rRet, rRetN, rIfS, rPass, rDrop, rAsg, rNil, rCons, rTup, rLst, rCB, rAnd, rOr, rNot, rAndV, rOrV, rIf, rNotV, rgName, rgTup, rgCons, rgNil, rgSub, rCallG, callK, rA0, rA1, rAK0, rAK, rFld, rIt, rLc, rLcK, rPar, rPar3, entry, shc, wipeG, allDat, datsOf, slot, put, view_p, List.nil_append, List.cons_append, List.map_cons, List.map_nil, Option.map_some, true_and, and_true, if_true, Bool.false_eq_true, if_false, addF_ii, addF_ss, addF_ll, addF_tt, iF_ii, mulF_ii, mulF_si, mulF_li, eqF_ii, eqF_ss, eqF_bb, neF_ii, neF_ss, neF_bb, cmF_ii, cmF_ss, at0, at1, at2, ixF_l, ixF_t, ixF_c, ixF_s, lenF_s, lenF_l, lenF_t, lenF_c, absF_i, maxF_ii, minF_ii, divmodF_ii, isF_n, isF_b, blC_b, blD_b, truD_b, truD_i, truD_n, truD_l, truD_t, c1F_1, c2F_2, starD_t, starD_l, isiF_eq, isiCF_eq, rNewL, newLst]
  refine ⟨rfl, n + 1, i, a, s, d, c, hi, rfl, hg, hi2, fun ps s1 d1 c1 hf hpl => ⟨by decide, fun p0 => ?_⟩⟩
  refine forW_go (fun j g m' => ∃ (us : List Tp) (la x y z : Int) (u v w : Option Cv), g = [some (.l (n + 1) i), some (.p (.lst (ws.map .str))), some (.p (.int hi)), some (.p (.lst (ps.map .int))), some (.l 0 0), some (.p (.int la)), u, v, w] ∧ m' = [(p0, Lo.lst (us.map tpD))] :: mset m n i (poolL x y z) ∧ us.map (·.1) = ws.take j ∧
    (∀ t ∈ us, 0 ≤ t.2.1 ∧ t.2.1 < t.2.2 ∧ t.2.2 ≤ 10000000000000000000000000000000000) ∧ 0 ≤ la) ⟨[], 0, s1, d1, c1, none, none, none, rfl, rfl, rfl, fun p h => (by cases h), by decide⟩ (fun _ _ _ _ => trivial) ?_ ?_
  · rintro j dd g m' hd ⟨us, la, x, y, z, u, v, w, rfl, rfl, hu, ho, h0⟩ N hN
    obtain ⟨hj, wd, hwd, rfl⟩ : j < ws.length ∧ ∃ wd, ws[j]? = some wd ∧ dd = .str wd := by
      rw [List.getElem?_map] at hd
      obtain ⟨wd, h1, rfl⟩ := Option.map_eq_some_iff.mp hd
      exact ⟨(List.getElem?_eq_some_iff.mp h1).1, wd, h1, rfl⟩
    have hul : us.length = j := by
      have := congrArg List.length hu
      rw [List.length_map, List.length_take] at this
      omega
    have hl0 : us.length < sizeLine := by rw [sizeLine_eq]; omega
    refine ⟨rfl, n + 1, i, a, x, y, z, 4, rfl, mget_mset (m := m) hg, by decide, by decide, fun way x1 y1 z1 w0 w1 => ?_⟩
    have e1 : ∀ x' y' z' x'' y'' z'' : Int, mset ([(p0, Lo.lst (us.map tpD))] :: mset m n i (poolL x' y' z')) (n + 1) i (poolL x'' y'' z'') = [(p0, Lo.lst (us.map tpD))] :: mset m n i (poolL x'' y'' z'') := fun _ _ _ _ _ _ => congrArg (_ :: ·) mset_mset
    rw [e1]
    have rest : ∀ b x2 y2 z2 : Int, 0 ≤ b → b < hi → rides_tail K { nx := N, ct := N, bk := (rRet (rCB (c1F tupleF) (rCons (rCB sortF (rCons (rVar 4) rNil)) rNil))) { nx := fun _ m => exK false Kc (.p .non) m, rt := exK false Kc, ex := fun x _ m => KE x m.tail }, rt := exK false Kc, ex := fun x _ m => KE x m.tail }
        [some (.l (n + 1) i), some (.p (.lst (ws.map .str))), some (.p (.int hi)), some (.p (.lst (ps.map .int))), some (.l 0 0), some (.p (.int la)), some (.p (.str wd)), some (.p (.int way)), some (.p (.int b))] ([(p0, Lo.lst (us.map tpD))] :: mset m n i (poolL x2 y2 z2)) := fun b x2 y2 z2 b0 b1 =>
      rides_tail_ok rfl (mget_mset hg) hpl b0 b1 hi2 w0 w1 (by rw [List.length_map]; exact hl0) fun l x' y' z' l0 l1 => by
        rw [mset_mset]
        refine hN _ _ ⟨us ++ [(wd, ps.getD b.toNat 0, ps.getD l.toNat 0)], l, x', y', z', _, _, _, rfl, by rw [List.map_append]; rfl, ?_, fun t ht => ?_, by omega⟩
        · rw [List.map_append, hu, List.take_add_one, hwd]; rfl
        · rcases List.mem_append.mp ht with ht | ht
          · exact ho t ht
          · rw [List.mem_singleton.mp ht]
            exact ⟨(hf.lo _ (far_mem b0 (by omega))).1, far_lt hf.asc b0 l0 (by omega), (hf.lo _ (far_mem (b := l) (by omega) (by omega))).2⟩
    have other : sp__law_draw K [.l (n + 1) i, .p (.int hi)] ([(p0, Lo.lst (us.map tpD))] :: mset m n i (poolL x1 y1 z1)) (fun c m1 => rides_tail K { nx := N, ct := N, bk := (rRet (rCB (c1F tupleF) (rCons (rCB sortF (rCons (rVar 4) rNil)) rNil))) { nx := fun _ m => exK false Kc (.p .non) m, rt := exK false Kc, ex := fun x _ m => KE x m.tail }, rt := exK false Kc, ex := fun x _ m => KE x m.tail }
        [some (.l (n + 1) i), some (.p (.lst (ws.map .str))), some (.p (.int hi)), some (.p (.lst (ps.map .int))), some (.l 0 0), some (.p (.int la)), some (.p (.str wd)), some (.p (.int way)), some c] m1) fun x m' => KE x m'.tail :=
      ⟨n + 1, i, a, x1, y1, z1, hi, rfl, mget_mset (m := m) hg, by omega, by omega, fun b x2 y2 z2 b0 b1 => by rw [e1]; exact rest b x2 y2 z2 b0 b1⟩
    refine ite_b (b := decide (way = 0)) (fun e => ?_) fun e => ?_
    · refine ite_b (b := decide (la < hi)) (fun e2 => ?_) fun e2 => ?_
      · exact rest la x1 y1 z1 h0 (of_decide_eq_true e2)
      · exact ⟨rfl, other⟩
    · exact ⟨rfl, other⟩
  · rintro g m' ⟨us, la, x, y, z, u, v, w, rfl, rfl, hu, ho, h0⟩
    rw [List.length_map, List.take_length] at hu
    have em : (us.map rideR).map Dat.tup = us.map tpD := by rw [List.map_map]; rfl
    refine .inr ⟨us.map rideR, fun i => i == 0, 3, 3, em.symm, rides_rows hw hu, fun out hp ho2 => ?_⟩
    obtain ⟨rs, hp2, rfl⟩ := perm_map rideR hp
    have er : (rs.map rideR).map Dat.tup = rs.map tpD := by rw [List.map_map]; rfl
    rw [er]
    exact k rs x y z (rides_valid hw hl hu ho hp2 (List.pairwise_map.mp ho2))
theorem len__law_words {K : PySem.W.Frag} : ∀ cs m Kc KE, sp__law_words K cs m Kc KE → cs.length = 2 := by rintro cs m Kc KE ⟨_, _, _, _, _, _, _, rfl, _⟩; rfl
def menuL : List Str := ["book", "cancel", "exchange", "shift", "seats", "undo", "show", "line", "count", "number", "load", "trip", "none", "cut", "overfull", "a", "b", "x", "plan", "route", "fixed", "full", "goal", "name"]
theorem menu_nd : menuL.Nodup := by decide +kernel
theorem menu_ok : ∀ w ∈ menuL, nameS w = true := by decide +kernel
theorem letters_nd : lettersL.Nodup := by decide +kernel
theorem letters_len : lettersL.length = 26 := by decide +kernel
theorem nameS_of {x : Str} {l : List Nat} (e : x.cps.toList = l) (h0 : 0 < l.length) (h1 : l.length < 9) (hl : ∀ c ∈ l, c ∈ lettersL) : nameS x = true := by
  have hx : x.length = l.length := by rw [← e]; simp [Str.length]
  unfold nameS
  rw [hx, decide_eq_true h0, decide_eq_true h1, e, Bool.true_and, Bool.true_and]
  exact List.all_eq_true.mpr fun c hc => decide_eq_true (hl c hc)
theorem words_of (W : Int → Str) (k : Nat) (hk : k ≤ 24) (hn : ∀ j : Int, 0 ≤ j → j < 24 → nameS (W j) = true) (hd : ∀ i j : Int, 0 ≤ i → i < 24 → 0 ≤ j → j < 24 → W i = W j → i = j) : WordsOk ((List.range k).map fun j => W (0 + (j : Nat))) := by
  refine ⟨fun w hw => ?_, ?_⟩
  · obtain ⟨j, hj, rfl⟩ := List.mem_map.mp hw
    have := List.mem_range.mp hj
    exact hn _ (by omega) (by omega)
  · refine List.pairwise_map.mpr (List.Pairwise.imp_of_mem (fun {a b} ha hb hab e => ?_) List.nodup_range)
    have h1 := List.mem_range.mp ha
    have h2 := List.mem_range.mp hb
    have := hd _ _ (by omega) (by omega) (by omega) (by omega) e
    exact hab (by omega)
/-- the comprehension over range(k) -/
theorem lc_words {re : RE} {gw : G} {m : Mem} {KK : List Dat → Mem → Prop} (W : Int → Str) (k : Nat) (hk : k ≤ 24) (step : ∀ j : Int, 0 ≤ j → j < 24 → ∀ Kc : Cv → Mem → Prop, Kc (.p (.str (W j))) m → re (put gw 6 (some (.p (.int j)))) m Kc KE0)
    (fin : KK (((List.range k).map fun j => W (0 + (j : Nat))).map .str) m) : lcW (rgName 6) rYes re (fun _ => True) gw KK (rngD 0 k) [] m := by
  refine lcW_map (fun d => match d with
    | .int j => .str (W j)
    | d => d) m trivial (rngD 0 k) [] (by rw [rngD_len]; simp; rw [sizeLine_eq]; omega) (fun d hd Kc q => ?_) ?_
  · unfold rngD at hd
    obtain ⟨j, hj, rfl⟩ := List.mem_map.mp hd
    have := List.mem_range.mp hj
    exact step _ (by omega) (by omega) Kc q
  · rw [List.nil_append]
    have e : (rngD 0 k).map (fun d => match d with
        | .int j => Dat.str (W j)
        | d => d) = ((List.range k).map fun j => W (0 + (j : Nat))).map Dat.str := by
      unfold rngD
      rw [List.map_map, List.map_map]; rfl
    rw [e]; exact fin
theorem nodup_inj {α : Type} {l : List α} (h : l.Nodup) {i j : Nat} (hi : i < l.length) (hj : j < l.length) (e : l[i] = l[j]) : i = j := by
  rcases Nat.lt_trichotomy i j with q | q | q
  · exact absurd e (List.pairwise_iff_getElem.mp h i j hi hj q)
  · exact q
  · exact absurd e.symm (List.pairwise_iff_getElem.mp h j i hj hi q)
def letS (i : Int) : Str := ⟨#[lettersL.getD i.toNat 0]⟩
theorem let_at {i : Int} (h0 : 0 ≤ i) (h1 : i < 26) : atI (Str.ofString "abcdefghijklmnopqrstuvwxyz").cps.toList i = some (lettersL.getD i.toNat 0) := by
  have hl : i.toNat < lettersL.length := by rw [letters_len]; omega
  have q : lettersL[i.toNat]? = some (lettersL.getD i.toNat 0) := by rw [List.getD_eq_getElem?_getD, List.getElem?_eq_getElem hl]; rfl
  have := atI_nat q
  rwa [Int.toNat_of_nonneg h0] at this
theorem let_mem {i : Int} (h0 : 0 ≤ i) (h1 : i < 26) : lettersL.getD i.toNat 0 ∈ lettersL := by
  have hl : i.toNat < lettersL.length := by rw [letters_len]; omega
  rw [List.getD_eq_getElem?_getD, List.getElem?_eq_getElem hl]
  exact List.getElem_mem hl
theorem let_inj {i j : Int} (h0 : 0 ≤ i) (h1 : i < 26) (h2 : 0 ≤ j) (h3 : j < 26) (e : lettersL.getD i.toNat 0 = lettersL.getD j.toNat 0) : i = j := by
  have hi : i.toNat < lettersL.length := by rw [letters_len]; omega
  have hj : j.toNat < lettersL.length := by rw [letters_len]; omega
  rw [List.getD_eq_getElem?_getD, List.getD_eq_getElem?_getD, List.getElem?_eq_getElem hi, List.getElem?_eq_getElem hj] at e
  have := nodup_inj letters_nd hi hj e
  omega
theorem menu_at {i : Int} (h0 : 0 ≤ i) (h1 : i < 24) : atI (menuL.map Dat.str) i = some (.str (menuL.getD i.toNat Str.empty)) := by
  have hl : i.toNat < menuL.length := by show i.toNat < 24; omega
  have q : (menuL.map Dat.str)[i.toNat]? = some (.str (menuL.getD i.toNat Str.empty)) := by
    rw [List.getElem?_map, List.getD_eq_getElem?_getD, List.getElem?_eq_getElem hl]; rfl
  have := atI_nat q
  rwa [Int.toNat_of_nonneg h0] at this
theorem menu_mem {i : Int} (h0 : 0 ≤ i) (h1 : i < 24) : menuL.getD i.toNat Str.empty ∈ menuL := by
  have hl : i.toNat < menuL.length := by show i.toNat < 24; omega
  rw [List.getD_eq_getElem?_getD, List.getElem?_eq_getElem hl]
  exact List.getElem_mem hl
theorem menu_inj {i j : Int} (h0 : 0 ≤ i) (h1 : i < 24) (h2 : 0 ≤ j) (h3 : j < 24) (e : menuL.getD i.toNat Str.empty = menuL.getD j.toNat Str.empty) : i = j := by
  have hi : i.toNat < menuL.length := by show i.toNat < 24; omega
  have hj : j.toNat < menuL.length := by show j.toNat < 24; omega
  rw [List.getD_eq_getElem?_getD, List.getD_eq_getElem?_getD, List.getElem?_eq_getElem hi, List.getElem?_eq_getElem hj] at e
  have := nodup_inj menu_nd hi hj e
  omega
theorem pl__law_words (K : PySem.W.Frag) (cs : List Cv) (m : Mem) (Kc : Cv → Mem → Prop) (KE : Xn → Mem → Prop) (h : sp__law_words K cs m Kc KE) :
    r__law_words K { nx := fun _ m => exK false Kc (.p .non) m, rt := exK false Kc, ex := fun x _ m => KE x m.tail } (entry N__law_words cs) ([] :: m) := by
  obtain ⟨n, i, a, s, d, c, k0, rfl, hg, hk, k⟩ := h
  have eN : entry N__law_words [.l n i, .p (.int k0)] = [some (.l (n + 1) i), some (.p (.int k0)), none, none, none, none, none, none, none] := rfl
  unfold r__law_words
  rw [eN]
  simp only [rTe, rTr, rOp, rUn, rVar, rC, rSet, rSeq, rRet, rRetN, rIfS, rPass, rDrop, rAsg, rNil, rCons, rTup, rLst, rCB, rAnd, rOr, rNot, rAndV, rOrV, rIf, rNotV, rgName, rgTup, rgCons, rgNil, rgSub, rCallG, callK, rA0, rA1, rAK0, rAK, rFld, rIt, rLc, rLcK, rPar, rPar3, entry, shc, wipeG, allDat, datsOf, slot, put, view_p, List.nil_append, List.cons_append, List.map_cons, List.map_nil, Option.map_some, true_and, and_true, if_true, Bool.false_eq_true, if_false, addF_ii, addF_ss, addF_ll, addF_tt, iF_ii, mulF_ii, mulF_si, mulF_li, eqF_ii, eqF_ss, eqF_bb, neF_ii, neF_ss, neF_bb, cmF_ii, cmF_ss, at0, at1, at2, ixF_l, ixF_t, ixF_c, ixF_s, lenF_s, lenF_l, lenF_t, lenF_c, absF_i, maxF_ii, minF_ii, divmodF_ii, isF_n, isF_b, blC_b, blD_b, truD_b, truD_i, truD_n, truD_l, truD_t, c1F_1, c2F_2, starD_t, starD_l, isiF_eq, isiCF_eq]
  refine ⟨by decide, by decide, by decide, rfl, n + 1, i, a, s, d, c, 3, rfl, hg, by decide, by decide, fun way s1 d1 c1 w0 w1 => ?_⟩
  have g1 : mget (mset ([] :: m) (n + 1) i (poolL s1 d1 c1)) (n + 1) i = some (a, poolL s1 d1 c1) := mget_mset hg
  refine ⟨rfl, n + 1, i, a, s1, d1, c1, 24, rfl, g1, by decide, by decide, fun b s2 d2 c2 b0 b1 => ?_⟩
  rw [mset_mset]
  have e64 : (2 : Int) ^ 64 = 18446744073709551616 := by decide
  have e62 : (2 : Int) ^ 62 = 4611686018427387904 := by decide
  have lz : (Str.ofString "abcdefghijklmnopqrstuvwxyz").length ≤ sizeLine := by decide +kernel
  have hmul : ∀ (x j : Int), 0 ≤ x → x < 100 → CMul x j := fun x j h0 h1 => .inl ⟨by omega, by omega⟩
  simp only [rTe, rTr, rOp, rUn, rVar, rC, rSet, rSeq, rRet, rRetN, rIfS, rPass, rDrop, rAsg, rNil, rCons, rTup, rLst, rCB, rAnd, rOr, rNot, rAndV, rOrV, rIf, rNotV, rgName, rgTup, rgCons, rgNil, rgSub, rCallG, callK, rA0, rA1, rAK0, rAK, rFld, rIt, rLc, rLcK, rPar, rPar3, entry, shc, wipeG, allDat, datsOf, slot, put, view_p, List.nil_append, List.cons_append, List.map_cons, List.map_nil, Option.map_some, true_and, and_true, if_true, Bool.false_eq_true, if_false, addF_ii, addF_ss, addF_ll, addF_tt, iF_ii, mulF_ii, mulF_si, mulF_li, eqF_ii, eqF_ss, eqF_bb, neF_ii, neF_ss, neF_bb, cmF_ii, cmF_ss, at0, at1, at2, ixF_l, ixF_t, ixF_c, ixF_s, lenF_s, lenF_l, lenF_t, lenF_c, absF_i, maxF_ii, minF_ii, divmodF_ii, isF_n, isF_b, blC_b, blD_b, truD_b, truD_i, truD_n, truD_l, truD_t, c1F_1, c2F_2, starD_t, starD_l, isiF_eq, isiCF_eq, rRg1]
  refine ⟨by show 2 ≤ sizeLine; decide, rfl, ?_⟩
  refine ite_b (fun e => ?_) fun e => ?_
  · refine ⟨⟨by omega, by omega⟩, ?_⟩
    rw [Int.toNat_natCast]
    refine lc_words (fun j => menuL.getD ((b + 5 * j) % 24).toNat Str.empty) k0 hk (fun j h0 h1 Kc q => ?_) ?_
    · refine ⟨hmul _ _ (by decide) (by decide), by show (0 : Int) < 24; decide, ?_⟩
      have r0 : 0 ≤ (b + 5 * j) % 24 := Int.emod_nonneg _ (by decide)
      have r1 : (b + 5 * j) % 24 < 24 := Int.emod_lt_of_pos _ (by decide)
      exact ixF_lst (menu_at r0 r1) q
    · have hW : WordsOk ((List.range k0).map fun j => (fun j : Int => menuL.getD ((b + 5 * j) % 24).toNat Str.empty) (0 + (j : Nat))) := words_of (fun j : Int => menuL.getD ((b + 5 * j) % 24).toNat Str.empty) k0 hk (fun j h0 h1 => ?_) fun i j h0 h1 h2 h3 e => ?_
      · exact k _ _ _ _ hW (by simp)
      · exact menu_ok _ (menu_mem (Int.emod_nonneg _ (by decide)) (Int.emod_lt_of_pos _ (by decide)))
      · have := menu_inj (Int.emod_nonneg _ (by decide)) (Int.emod_lt_of_pos _ (by decide)) (Int.emod_nonneg _ (by decide)) (Int.emod_lt_of_pos _ (by decide)) e
        omega
  refine ite_b (fun e2 => ?_) fun e2 => ?_
  · refine ⟨⟨by omega, by omega⟩, ?_⟩
    rw [Int.toNat_natCast]
    have rng : ∀ j : Int, 0 ≤ (b + 7 * j) % 26 ∧ (b + 7 * j) % 26 < 26 := fun j => ⟨Int.emod_nonneg _ (by decide), Int.emod_lt_of_pos _ (by decide)⟩
    have tl : ∀ j : Int, (rptS (letS ((b + 7 * j) % 26)) (1 + j % 8)).cps.toList = List.replicate (1 + j % 8).toNat (lettersL.getD ((b + 7 * j) % 26).toNat 0) := fun j => by
      rw [rpt_tl]
      show (List.replicate _ [_]).flatten = _
      rw [List.flatten_replicate_singleton]
    have q8 : ∀ j : Int, 0 ≤ j % 8 ∧ j % 8 < 8 := fun j => ⟨Int.emod_nonneg _ (by decide), Int.emod_lt_of_pos _ (by decide)⟩
    refine lc_words (fun j => rptS (letS ((b + 7 * j) % 26)) (1 + j % 8)) k0 hk (fun j h0 h1 Kc q => ?_) ?_
    · refine ⟨hmul _ _ (by decide) (by decide), by show (0 : Int) < 26; decide, ?_⟩
      refine ixF_str lz (let_at (rng j).1 (rng j).2) ?_
      have := q8 j
      refine ⟨by show (0 : Int) < 8; decide, ?_, ?_, ?_, q⟩
      · show 1 ≤ 1 + j % 8; omega
      · show 1 + j % 8 < 2 ^ 20
        have e20 : (2 : Int) ^ 20 = 1048576 := by decide
        omega
      · show 1 * (1 + j % 8).toNat ≤ sizeLine
        rw [sizeLine_eq]; omega
    · have hW : WordsOk ((List.range k0).map fun j => (fun j : Int => rptS (letS ((b + 7 * j) % 26)) (1 + j % 8)) (0 + (j : Nat))) := words_of (fun j : Int => rptS (letS ((b + 7 * j) % 26)) (1 + j % 8)) k0 hk (fun j h0 h1 => ?_) fun i j h0 h1 h2 h3 e => ?_
      · exact k _ _ _ _ hW (by simp)
      · have := q8 j
        refine nameS_of (tl j) (by rw [List.length_replicate]; omega) (by rw [List.length_replicate]; omega) fun c hc => ?_
        rw [(List.mem_replicate.mp hc).2]
        exact let_mem (rng j).1 (rng j).2
      · have q1 := q8 i
        have q2 := q8 j
        have e3 := congrArg (fun x : Str => x.cps.toList) e
        have e4 : List.replicate (1 + i % 8).toNat (lettersL.getD ((b + 7 * i) % 26).toNat 0) = List.replicate (1 + j % 8).toNat (lettersL.getD ((b + 7 * j) % 26).toNat 0) := (tl i).symm.trans (e3.trans (tl j))
        have e5 : lettersL.getD ((b + 7 * i) % 26).toNat 0 = lettersL.getD ((b + 7 * j) % 26).toNat 0 := by
          have h1 : lettersL.getD ((b + 7 * i) % 26).toNat 0 ∈ List.replicate (1 + i % 8).toNat (lettersL.getD ((b + 7 * i) % 26).toNat 0) := List.mem_replicate.mpr ⟨by omega, rfl⟩
          rw [e4] at h1
          exact (List.mem_replicate.mp h1).2
        have := let_inj (rng i).1 (rng i).2 (rng j).1 (rng j).2 e5
        omega
  have g2 : mget ([] :: mset m n i (poolL s2 d2 c2)) (n + 1) i = some (a, poolL s2 d2 c2) := mget_mset (m := m) hg
  refine ⟨trivial, rfl, n + 1, i, a, s2, d2, c2, 8, rfl, g2, by decide, by decide, fun r s3 d3 c3 r0 r1 => ?_⟩
  have e3 : mset (mset ([] :: m) (n + 1) i (poolL s2 d2 c2)) (n + 1) i (poolL s3 d3 c3) = [] :: mset m n i (poolL s3 d3 c3) := mset_mset
  rw [e3]
  refine ⟨⟨by omega, by omega⟩, ?_⟩
  refine lcW_go (fun j acc m' => ∃ ls : List Nat, acc = ls.map (fun c => Dat.str ⟨#[c]⟩) ∧ (∀ c ∈ ls, c ∈ lettersL) ∧ ls.length = j ∧ ∃ x y z, m' = [] :: mset m n i (poolL x y z)) (by rw [rngD_len, sizeLine_eq]; omega) ⟨[], rfl, fun c hc => (by cases hc), rfl, _, _, _, rfl⟩ (fun _ _ _ _ => trivial) ?_ ?_
  · rintro j d0 acc m' hd ha ⟨ls, rfl, hls, hll, x, y, z, rfl⟩ Kc hK
    refine ⟨rfl, n + 1, i, a, x, y, z, 26, rfl, mget_mset (m := m) hg, by decide, by decide, fun r' x' y' z' h0 h1 => ?_⟩
    have e4 : mset ([] :: mset m n i (poolL x y z)) (n + 1) i (poolL x' y' z') = [] :: mset m n i (poolL x' y' z') := congrArg ([] :: ·) mset_mset
    rw [e4]
    refine ixF_str lz (let_at h0 h1) (hK _ _ ⟨ls ++ [lettersL.getD r'.toNat 0], by rw [List.map_append]; rfl, fun c hc => ?_, by rw [List.length_append, hll]; rfl, _, _, _, rfl⟩)
    rcases List.mem_append.mp hc with hc | hc
    · exact hls c hc
    · rw [List.mem_singleton.mp hc]; exact let_mem h0 h1
  rintro acc m' ha ⟨ls, rfl, hls, hll, x, y, z, rfl⟩
  rw [rngD_len] at hll
  have l8 : ls.length < 8 := by omega
  have er : ls.map (fun c => Dat.str ⟨#[c]⟩) = (ls.map fun c => (⟨#[c]⟩ : Str)).map Dat.str := by rw [List.map_map]; rfl
  rw [er]
  simp only [rTe, rTr, rOp, rUn, rVar, rC, rSet, rSeq, rRet, rRetN, rIfS, rPass, rDrop, rAsg, rNil, rCons, rTup, rLst, rCB, rAnd, rOr, rNot, rAndV, rOrV, rIf, rNotV, rgName, rgTup, rgCons, rgNil, rgSub, rCallG, callK, rA0, rA1, rAK0, rAK, rFld, rIt, rLc, rLcK, rPar, rPar3, entry, shc, wipeG, allDat, datsOf, slot, put, view_p, List.nil_append, List.cons_append, List.map_cons, List.map_nil, Option.map_some, true_and, and_true, if_true, Bool.false_eq_true, if_false, addF_ii, addF_ss, addF_ll, addF_tt, iF_ii, mulF_ii, mulF_si, mulF_li, eqF_ii, eqF_ss, eqF_bb, neF_ii, neF_ss, neF_bb, cmF_ii, cmF_ss, at0, at1, at2, ixF_l, ixF_t, ixF_c, ixF_s, lenF_s, lenF_l, lenF_t, lenF_c, absF_i, maxF_ii, minF_ii, divmodF_ii, isF_n, isF_b, blC_b, blD_b, truD_b, truD_i, truD_n, truD_l, truD_t, c1F_1, c2F_2, starD_t, starD_l, isiF_eq, isiCF_eq, rSl, rO0, rO1, slF_s]
  refine joinF_l ?_ ?_
  · rw [sum_singles]
    have : (Str.ofString "").length = 0 := by decide +kernel
    rw [this]; omega
  rw [join_singles]
  have sl : (⟨ls.toArray⟩ : Str).length = ls.length := by show ls.toArray.size = _; simp
  have g4 : mget ([] :: mset m n i (poolL x y z)) (n + 1) i = some (a, poolL x y z) := mget_mset (m := m) hg
  have sz : ∀ k : Nat, k < 100 → k ≤ sizeLine := fun k h => by rw [sizeLine_eq]; omega
  refine ⟨sz _ (by rw [sl]; omega), rfl, n + 1, i, a, x, y, z, _, rfl, g4, by rw [sl]; omega, by rw [sl]; omega, fun at_ x' y' z' h0 h1 => ?_⟩
  rw [sl] at h1
  have e4 : mset ([] :: mset m n i (poolL x y z)) (n + 1) i (poolL x' y' z') = [] :: mset m n i (poolL x' y' z') := congrArg ([] :: ·) mset_mset
  rw [e4]
  refine ⟨⟨by omega, by omega⟩, ?_⟩
  rw [Int.toNat_natCast]
  obtain ⟨t, rfl⟩ : ∃ t : Nat, at_ = (t : Int) := ⟨at_.toNat, by omega⟩
  have ht : t ≤ ls.length := by omega
  have rng : ∀ j : Int, 0 ≤ (b + 5 * j) % 26 ∧ (b + 5 * j) % 26 < 26 := fun j => ⟨Int.emod_nonneg _ (by decide), Int.emod_lt_of_pos _ (by decide)⟩
  have ct : (cutS ⟨ls.toArray⟩ none (some (t : Int))).cps.toList = ls.take t := cut_to (by rw [sl]; exact ht)
  have cf : (cutS ⟨ls.toArray⟩ (some (t : Int)) none).cps.toList = ls.drop t := cut_from (by rw [sl]; exact ht)
  have tl : ∀ j : Int, (cutS ⟨ls.toArray⟩ none (some (t : Int)) ++ letS ((b + 5 * j) % 26) ++ cutS ⟨ls.toArray⟩ (some (t : Int)) none).cps.toList = ls.take t ++ [lettersL.getD ((b + 5 * j) % 26).toNat 0] ++ ls.drop t := fun j => by
    rw [str_app, str_app, ct, cf]; rfl
  refine lc_words (fun j => cutS ⟨ls.toArray⟩ none (some (t : Int)) ++ letS ((b + 5 * j) % 26) ++ cutS ⟨ls.toArray⟩ (some (t : Int)) none) k0 hk (fun j h0 h1 Kc q => ?_) ?_
  · simp only [rTe, rTr, rOp, rUn, rVar, rC, rSet, rSeq, rRet, rRetN, rIfS, rPass, rDrop, rAsg, rNil, rCons, rTup, rLst, rCB, rAnd, rOr, rNot, rAndV, rOrV, rIf, rNotV, rgName, rgTup, rgCons, rgNil, rgSub, rCallG, callK, rA0, rA1, rAK0, rAK, rFld, rIt, rLc, rLcK, rPar, rPar3, entry, shc, wipeG, allDat, datsOf, slot, put, view_p, List.nil_append, List.cons_append, List.map_cons, List.map_nil, Option.map_some, true_and, and_true, if_true, Bool.false_eq_true, if_false, addF_ii, addF_ss, addF_ll, addF_tt, iF_ii, mulF_ii, mulF_si, mulF_li, eqF_ii, eqF_ss, eqF_bb, neF_ii, neF_ss, neF_bb, cmF_ii, cmF_ss, at0, at1, at2, ixF_l, ixF_t, ixF_c, ixF_s, lenF_s, lenF_l, lenF_t, lenF_c, absF_i, maxF_ii, minF_ii, divmodF_ii, isF_n, isF_b, blC_b, blD_b, truD_b, truD_i, truD_n, truD_l, truD_t, c1F_1, c2F_2, starD_t, starD_l, isiF_eq, isiCF_eq, rSl, rO0, rO1, slF_s]
    refine ⟨sz _ (by rw [sl]; omega), hmul _ _ (by decide) (by decide), by decide, ?_⟩
    rw [let_at (rng j).1 (rng j).2]
    have c1 : (cutS ⟨ls.toArray⟩ none (some (t : Int))).length ≤ 8 := by rw [str_len, ct, List.length_take]; omega
    have c2 : (cutS ⟨ls.toArray⟩ (some (t : Int)) none).length ≤ 8 := by rw [str_len, cf, List.length_drop]; omega
    refine ⟨lz, ?_, sz _ (by rw [sl]; omega), ?_, q⟩
    · have : (⟨#[lettersL.getD ((b + 5 * j) % 26).toNat 0]⟩ : Str).length = 1 := rfl
      exact sz _ (by omega)
    · have : (cutS ⟨ls.toArray⟩ none (some (t : Int)) ++ (⟨#[lettersL.getD ((b + 5 * j) % 26).toNat 0]⟩ : Str)).length ≤ 9 := by
        rw [str_len, str_app, ct, List.length_append, List.length_take]
        show _ + 1 ≤ 9
        omega
      exact sz _ (by omega)
  · have hW : WordsOk ((List.range k0).map fun j => (fun j : Int => cutS ⟨ls.toArray⟩ none (some (t : Int)) ++ letS ((b + 5 * j) % 26) ++ cutS ⟨ls.toArray⟩ (some (t : Int)) none) (0 + (j : Nat))) := words_of (fun j : Int => cutS ⟨ls.toArray⟩ none (some (t : Int)) ++ letS ((b + 5 * j) % 26) ++ cutS ⟨ls.toArray⟩ (some (t : Int)) none) k0 hk (fun j h0 h1 => ?_) fun i j h0 h1 h2 h3 e => ?_
    · exact k _ _ _ _ hW (by simp)
    · refine nameS_of (tl j) (by simp; omega) (by simp; omega) fun c hc => ?_
      rcases List.mem_append.mp hc with hc | hc
      · rcases List.mem_append.mp hc with hc | hc
        · exact hls c (List.mem_of_mem_take hc)
        · rw [List.mem_singleton.mp hc]; exact let_mem (rng j).1 (rng j).2
      · exact hls c (List.mem_of_mem_drop hc)
    · have e3 := congrArg (fun x : Str => x.cps.toList) e
      have e4 := (tl i).symm.trans (e3.trans (tl j))
      rw [List.append_assoc, List.append_assoc] at e4
      have e5 := List.append_cancel_left e4
      have e6 := (List.cons.inj e5).1
      have := let_inj (rng i).1 (rng i).2 (rng j).1 (rng j).2 e6
      omega
theorem len__law_peak {K : PySem.W.Frag} : ∀ cs m Kc KE, sp__law_peak K cs m Kc KE → cs.length = 1 := by rintro cs m Kc KE ⟨_, _, rfl, _⟩; rfl
theorem pl__law_peak (K : PySem.W.Frag) (cs : List Cv) (m : Mem) (Kc : Cv → Mem → Prop) (KE : Xn → Mem → Prop) (h : sp__law_peak K cs m Kc KE) :
    r__law_peak K { nx := fun _ m => exK false Kc (.p .non) m, rt := exK false Kc, ex := fun x _ m => KE x m.tail } (entry N__law_peak cs) ([] :: m) := by
  obtain ⟨d, ts, rfl, hd, hl, k⟩ := h
  have main : lcW (rgName 1) rYes (rCallG 2 (sp__law_load K) (fun cs _ => cs) [] (rA1 (rCons (rVar 0) (rCons (rOp ixF (rVar 1) (rC (.int 1))) rNil)))) (fun _ => True) [some (.p d), none] (fun acc m2 => 1 ≤ sizeLine ∧ acc.length + 1 ≤ sizeLine ∧ max2F [.lst (acc ++ [.int 0])] fun r => exK false Kc (.p r) m2) (ts.map tpD) [] ([] :: m) := by
    refine lc_tpm (fun t => .int (loadN ts t.2.1 : Nat)) ts hl (fun t ht Kc q => ⟨rfl, d, ts, t.2.1, rfl, hd, hl, q⟩) ?_
    refine ⟨by decide, by rw [List.length_map, sizeLine_eq]; omega, .inr ?_⟩
    have e : (ts.map fun t : Tp => Dat.int (loadN ts t.2.1 : Nat)) ++ [Dat.int 0] = ((ts.map fun t : Tp => ((loadN ts t.2.1 : Nat) : Int)) ++ [0]).map Dat.int := by rw [List.map_append, List.map_map]; rfl
    rw [e]
    show match intsD (((ts.map fun t : Tp => ((loadN ts t.2.1 : Nat) : Int)) ++ [0]).map Dat.int) with
      | some ns => 0 < ns.length ∧ ∀ v, v ∈ ns → (∀ y, y ∈ ns → y ≤ v) → Kc (.p (.int v)) m
      | none => False
    rw [intsD_map]
    refine ⟨by simp, fun v hv hm => k v (hm 0 (by simp)) ?_ fun t ht => hm _ (List.mem_append_left _ (List.mem_map_of_mem ht))⟩
    rcases List.mem_append.mp hv with hv | hv
    · obtain ⟨t, _, rfl⟩ := List.mem_map.mp hv
      have := load_le (ts := ts) (p := t.2.1)
      omega
    · rw [List.mem_singleton.mp hv]; omega
  rcases hd with rfl | rfl
  · exact main
  · exact main
theorem len__law_long_case {K : PySem.W.Frag} : ∀ cs m Kc KE, sp__law_long_case K cs m Kc KE → cs.length = 1 := by rintro cs m Kc KE ⟨_, _, _, _, _, _, rfl, _⟩; rfl
theorem pl__law_long_case (K : PySem.W.Frag) (cs : List Cv) (m : Mem) (Kc : Cv → Mem → Prop) (KE : Xn → Mem → Prop) (h : sp__law_long_case K cs m Kc KE) :
    r__law_long_case K { nx := fun _ m => exK false Kc (.p .non) m, rt := exK false Kc, ex := fun x _ m => KE x m.tail } (entry N__law_long_case cs) ([] :: m) := by
  obtain ⟨n, i, a, s, d, c, rfl, hg, k⟩ := h
  have eN : entry N__law_long_case [.l n i] = [some (.l (n + 1) i), none, none, none, none] := rfl
  unfold r__law_long_case
  rw [eN]
  simp only [rTe, rTr, rOp, rUn, rVar, rC, rSet, rSeq, rRet, rRetN, rIfS, rPass, rDrop, rAsg, rNil, rCons, rTup, rLst, rCB, rAnd, rOr, rNot, rAndV, rOrV, rIf, rNotV, rgName, rgTup, rgCons, rgNil, rgSub, rCallG, callK, rA0, rA1, rAK0, rAK, rFld, rIt, rLc, rLcK, rPar, rPar3, entry, shc, wipeG, allDat, datsOf, slot, put, view_p, List.nil_append, List.cons_append, List.map_cons, List.map_nil, Option.map_some, true_and, and_true, if_true, Bool.false_eq_true, if_false, addF_ii, addF_ss, addF_ll, addF_tt, iF_ii, mulF_ii, mulF_si, mulF_li, eqF_ii, eqF_ss, eqF_bb, neF_ii, neF_ss, neF_bb, cmF_ii, cmF_ss, at0, at1, at2, ixF_l, ixF_t, ixF_c, ixF_s, lenF_s, lenF_l, lenF_t, lenF_c, absF_i, maxF_ii, minF_ii, divmodF_ii, isF_n, isF_b, blC_b, blD_b, truD_b, truD_i, truD_n, truD_l, truD_t, c1F_1, c2F_2, starD_t, starD_l, isiF_eq, isiCF_eq]
  have hM : ∀ x y z : Int, mget (mset ([] :: m) (n + 1) i (poolL x y z)) (n + 1) i = some (a, poolL x y z) := fun _ _ _ => mget_mset (m := [] :: m) (n := n + 1) hg
  refine ⟨rfl, n + 1, i, a, s, d, c, 25, rfl, hg, by decide, by decide, fun many s1 d1 c1 m0 m1 => ?_⟩
  obtain ⟨mn, rfl⟩ : ∃ j : Nat, many = j := ⟨many.toNat, by omega⟩
  refine ⟨rfl, n + 1, i, a, s1, d1, c1, 30, rfl, hM _ _ _, by decide, by decide, fun high s2 d2 c2 h0 h1 => ?_⟩
  rw [mset_mset]
  obtain ⟨hi, rfl⟩ : ∃ j : Nat, high = j := ⟨high.toNat, by omega⟩
  simp only [rTe, rTr, rOp, rUn, rVar, rC, rSet, rSeq, rRet, rRetN, rIfS, rPass, rDrop, rAsg, rNil, rCons, rTup, rLst, rCB, rAnd, rOr, rNot, rAndV, rOrV, rIf, rNotV, rgName, rgTup, rgCons, rgNil, rgSub, rCallG, callK, rA0, rA1, rAK0, rAK, rFld, rIt, rLc, rLcK, rPar, rPar3, entry, shc, wipeG, allDat, datsOf, slot, put, view_p, List.nil_append, List.cons_append, List.map_cons, List.map_nil, Option.map_some, true_and, and_true, if_true, Bool.false_eq_true, if_false, addF_ii, addF_ss, addF_ll, addF_tt, iF_ii, mulF_ii, mulF_si, mulF_li, eqF_ii, eqF_ss, eqF_bb, neF_ii, neF_ss, neF_bb, cmF_ii, cmF_ss, at0, at1, at2, ixF_l, ixF_t, ixF_c, ixF_s, lenF_s, lenF_l, lenF_t, lenF_c, absF_i, maxF_ii, minF_ii, divmodF_ii, isF_n, isF_b, blC_b, blD_b, truD_b, truD_i, truD_n, truD_l, truD_t, c1F_1, c2F_2, starD_t, starD_l, isiF_eq, isiCF_eq]
  refine ⟨rfl, n + 1, i, a, s2, d2, c2, mn, rfl, hM _ _ _, by omega, fun ws s3 d3 c3 hw hwl => ?_⟩
  rw [mset_mset]
  refine ⟨rfl, n + 1, i, a, s3, d3, c3, ws, 1 + hi, rfl, hM _ _ _, hw, by omega, by omega, by omega, fun ts s4 d4 c4 hts => ?_⟩
  rw [mset_mset]
  have h24 := hts.val.len
  refine ⟨rfl, _, ts, rfl, .inl rfl, by omega, fun v v0 v1 _ => ?_⟩
  refine ⟨by show 4 ≤ sizeLine; decide, rfl, n + 1, i, a, s4, d4, c4, 4, rfl, hM _ _ _, by decide, by decide, fun q s5 d5 c5 q0 q1 => ?_⟩
  rw [mset_mset]
  have near : Near ts := fun t ht => Int.le_trans (hts.hi t ht) (by decide)
  have fin : ∀ (w s' d' c' : Int), exK false Kc (.p (.lst [.int (if (if w < 20 then w else 20) > 1 then (if w < 20 then w else 20) else 1), .tup (ts.map tpD)])) (mset ([] :: m) (n + 1) i (poolL s' d' c')) := fun w s' d' c' =>
    k _ ts s' d' c' (by split <;> split at * <;> omega) (by split <;> split at * <;> omega) hts.val near
  obtain ⟨x, hx⟩ : ∃ x : Int, atI [Dat.int 0, .int 0, .int 1, .int 3] q = some (.int x) := by
    obtain rfl | rfl | rfl | rfl : q = 0 ∨ q = 1 ∨ q = 2 ∨ q = 3 := by omega
    · exact ⟨0, at0⟩
    · exact ⟨0, at1⟩
    · exact ⟨1, at2⟩
    · exact ⟨3, at3⟩
  refine ixF_lst hx ?_
  refine ⟨rfl, n + 1, i, a, s5, d5, c5, 6, rfl, hM _ _ _, by decide, by decide, fun z s6 d6 c6 z0 z1 => ?_⟩
  rw [mset_mset]
  refine ite_b (b := decide (z = 0)) (fun e => ?_) fun e => ?_
  · refine ⟨rfl, n + 1, i, a, s6, d6, c6, 20, rfl, hM _ _ _, by decide, by decide, fun y s7 d7 c7 y0 y1 => ?_⟩
    rw [mset_mset]
    exact .inl (.inl ⟨by show 2 ≤ sizeLine; decide, fin (1 + y) _ _ _⟩)
  · exact .inl (.inl ⟨by show 2 ≤ sizeLine; decide, fin (v + x) _ _ _⟩)
theorem len__law_right {K : PySem.W.Frag} : ∀ cs m Kc KE, sp__law_right K cs m Kc KE → cs.length = 1 := by rintro cs m Kc KE ⟨_, _, _, _, _, _, rfl, _⟩; rfl
theorem pl__law_right (K : PySem.W.Frag) (cs : List Cv) (m : Mem) (Kc : Cv → Mem → Prop) (KE : Xn → Mem → Prop) (h : sp__law_right K cs m Kc KE) :
    r__law_right K { nx := fun _ m => exK false Kc (.p .non) m, rt := exK false Kc, ex := fun x _ m => KE x m.tail } (entry N__law_right cs) ([] :: m) := by
  obtain ⟨n, i, a, s, d, c, rfl, hg, k⟩ := h
  have eN : entry N__law_right [.l n i] = [some (.l (n + 1) i), none, none, none, none, none, none] := rfl
  unfold r__law_right
  rw [eN]
  simp only [rTe, rTr, rOp, rUn, rVar, rC, rSet, rSeq, rRet, rRetN, rIfS, rPass, rDrop, rAsg, rNil, rCons, rTup, rLst, rCB, rAnd, rOr, rNot, rAndV, rOrV, rIf, rNotV, rgName, rgTup, rgCons, rgNil, rgSub, rCallG, callK, rA0, rA1, rAK0, rAK, rFld, rIt, rLc, rLcK, rPar, rPar3, entry, shc, wipeG, allDat, datsOf, slot, put, view_p, List.nil_append, List.cons_append, List.map_cons, List.map_nil, Option.map_some, true_and, and_true, if_true, Bool.false_eq_true, if_false, addF_ii, addF_ss, addF_ll, addF_tt, iF_ii, mulF_ii, mulF_si, mulF_li, eqF_ii, eqF_ss, eqF_bb, neF_ii, neF_ss, neF_bb, cmF_ii, cmF_ss, at0, at1, at2, ixF_l, ixF_t, ixF_c, ixF_s, lenF_s, lenF_l, lenF_t, lenF_c, absF_i, maxF_ii, minF_ii, divmodF_ii, isF_n, isF_b, blC_b, blD_b, truD_b, truD_i, truD_n, truD_l, truD_t, c1F_1, c2F_2, starD_t, starD_l, isiF_eq, isiCF_eq]
  have hM : ∀ x y z : Int, mget (mset ([] :: m) (n + 1) i (poolL x y z)) (n + 1) i = some (a, poolL x y z) := fun _ _ _ => mget_mset (m := [] :: m) (n := n + 1) hg
  refine ⟨rfl, n + 1, i, a, s, d, c, rfl, hg, fun w ts s1 d1 c1 w1 w2 hv hn => ?_⟩
  refine ⟨rfl, by show (0 : Int) < 20; decide, trivial, .inl ⟨by show 6 ≤ sizeLine; decide, ?_⟩⟩
  have told : ∀ (v : Int) (l : List Tp), 1 ≤ v → v ≤ 20 → l.Sublist ts → ∀ (M : Mem) (Q : Cv → Mem → Prop) (E : Xn → Mem → Prop), Q (.p (.bl true)) M → sp__law_told K [.p (.int v), .p (.tup (l.map tpD))] M Q E := fun v l v1 v2 hs M Q E q => ⟨v, l, rfl, v1, v2, hv.sub hs, hn.sub hs, q⟩
  refine forW_go (fun j g m' => m' = mset ([] :: m) (n + 1) i (poolL s1 d1 c1) ∧ ∃ x, g = [some (.l (n + 1) i), some (.p (.int w)), some (.p (.tup (ts.map tpD))), x, none, none, none]) ⟨rfl, _, rfl⟩ (fun _ _ _ _ => trivial) ?_ ?_
  · rintro j dd g m' hd ⟨rfl, x, rfl⟩ N hN
    obtain ⟨v, rfl, v1, v2⟩ : ∃ v : Int, dd = .int v ∧ 1 ≤ v ∧ v ≤ 20 := by
      have := List.mem_of_getElem? hd
      have b0 := Int.emod_nonneg w (show (20 : Int) ≠ 0 by decide)
      have b1 := Int.emod_lt_of_pos w (show (0 : Int) < 20 by decide)
      simp only [List.mem_cons, List.not_mem_nil, or_false] at this
      rcases this with rfl | rfl | rfl | rfl | rfl | rfl
      · exact ⟨_, rfl, w1, w2⟩
      · exact ⟨_, rfl, by show 1 ≤ 1 + w % 20; omega, by show 1 + w % 20 ≤ 20; omega⟩
      · exact ⟨_, rfl, by show 1 ≤ (if w - 1 > 1 then w - 1 else 1); split <;> omega, by show (if w - 1 > 1 then w - 1 else 1) ≤ 20; split <;> omega⟩
      · exact ⟨_, rfl, by decide, by decide⟩
      · exact ⟨_, rfl, by decide, by decide⟩
      · exact ⟨_, rfl, w1, w2⟩
    have c1' : cutD (ts.map tpD) (some ((1 : Nat) : Int)) none = (ts.drop 1).map tpD := by rw [cutD_from, ← List.map_drop]
    have c2' : cutD (ts.map tpD) none (some ((4 : Nat) : Int)) = (ts.take 4).map tpD := by rw [cutD_to, ← List.map_take]
    refine ⟨rfl, told v ts v1 v2 (List.Sublist.refl _) _ _ _ ?_⟩
    refine ⟨rfl, ?_⟩
    show sp__law_told K [.p (.int v), .p (.tup (cutD (ts.map tpD) (some ((1 : Nat) : Int)) none))] _ _ _
    rw [c1']
    refine told v _ v1 v2 (List.drop_sublist _ _) _ _ _ ?_
    refine ⟨rfl, ?_⟩
    show sp__law_told K [.p (.int v), .p (.tup (cutD (ts.map tpD) none (some ((4 : Nat) : Int))))] _ _ _
    rw [c2']
    refine told v _ v1 v2 (List.take_sublist _ _) _ _ _ ?_
    exact hN _ _ ⟨rfl, _, rfl⟩
  · rintro g m' ⟨rfl, x, rfl⟩
    simp only [rTe, rTr, rOp, rUn, rVar, rC, rSet, rSeq, rRet, rRetN, rIfS, rPass, rDrop, rAsg, rNil, rCons, rTup, rLst, rCB, rAnd, rOr, rNot, rAndV, rOrV, rIf, rNotV, rgName, rgTup, rgCons, rgNil, rgSub, rCallG, callK, rA0, rA1, rAK0, rAK, rFld, rIt, rLc, rLcK, rPar, rPar3, entry, shc, wipeG, allDat, datsOf, slot, put, view_p, List.nil_append, List.cons_append, List.map_cons, List.map_nil, Option.map_some, true_and, and_true, if_true, Bool.false_eq_true, if_false, addF_ii, addF_ss, addF_ll, addF_tt, iF_ii, mulF_ii, mulF_si, mulF_li, eqF_ii, eqF_ss, eqF_bb, neF_ii, neF_ss, neF_bb, cmF_ii, cmF_ss, at0, at1, at2, ixF_l, ixF_t, ixF_c, ixF_s, lenF_s, lenF_l, lenF_t, lenF_c, absF_i, maxF_ii, minF_ii, divmodF_ii, isF_n, isF_b, blC_b, blD_b, truD_b, truD_i, truD_n, truD_l, truD_t, c1F_1, c2F_2, starD_t, starD_l, isiF_eq, isiCF_eq]
    refine lc_tpm (fun t => .str t.1) ts (by have := hv.len; omega) (fun t ht Kc q => ?_) ?_
    · exact q
    have ew : (ts.map fun t : Tp => Dat.str t.1) = (ts.map (·.1)).map Dat.str := by rw [List.map_map]; rfl
    rw [ew]
    refine ⟨rfl, n + 1, i, a, s1, d1, c1, 30, rfl, hM _ _ _, by decide, by decide, fun hi s2 d2 c2 h0 h1 => ?_⟩
    rw [mset_mset]
    obtain ⟨hh, rfl⟩ : ∃ j : Nat, hi = j := ⟨hi.toNat, by omega⟩
    refine ⟨rfl, n + 1, i, a, s2, d2, c2, ts.map (·.1), 1 + hh, rfl, hM _ _ _, hv.words, by rw [List.length_map]; exact hv.len, by omega, by omega, fun os s3 d3 c3 hos => ?_⟩
    rw [mset_mset]
    have near : Near os := fun t ht => Int.le_trans (hos.hi t ht) (by decide)
    refine ⟨by show 4 ≤ sizeLine; decide, ?_⟩
    refine lcW_map (fun _ => .bl true) _ trivial _ [] (by show 0 + 4 ≤ sizeLine; decide) (fun d hd Kc q => ?_) ?_
    · have hd' : d = .tup (os.map tpD) ∨ d = .tup (ts.map tpD) := by
        have hd : d ∈ [Dat.tup (os.map tpD), .tup (ts.map tpD), .tup (os.map tpD), .tup (ts.map tpD)] := hd
        simp only [List.mem_cons, List.not_mem_nil, or_false] at hd
        rcases hd with h | h | h | h
        · exact .inl h
        · exact .inr h
        · exact .inl h
        · exact .inr h
      rcases hd' with rfl | rfl
      · exact ⟨rfl, w, os, rfl, w1, w2, hos.val, near, q⟩
      · exact ⟨rfl, w, ts, rfl, w1, w2, hv, hn, q⟩
    · exact all_true (j := 4) (k _ _ _)
theorem len__law_pool {K : PySem.W.Frag} : ∀ cs m Kc KE, sp__law_pool K cs m Kc KE → cs.length = 1 := by rintro cs m Kc KE ⟨_, _, _, rfl, _⟩; rfl
theorem pl__law_pool (K : PySem.W.Frag) (cs : List Cv) (m : Mem) (Kc : Cv → Mem → Prop) (KE : Xn → Mem → Prop) (h : sp__law_pool K cs m Kc KE) :
    r__law_pool K { nx := fun _ m => exK true Kc (.p .non) m, rt := exK true Kc, ex := fun x _ m => KE x m.tail } (entry N__law_pool cs) ([] :: m) := by
  obtain ⟨c, f, r, rfl, rfl, k⟩ := h
  have eN : entry N__law_pool [.p (.int c)] = [some (.p (.int c)), none] := rfl
  unfold r__law_pool
  rw [eN]
  simp only [rTe, rTr, rOp, rUn, rVar, rC, rSet, rSeq, rRet, rRetN, rIfS, rPass, rDrop, rAsg, rNil, rCons, rTup, rLst, rCB, rAnd, rOr, rNot, rAndV, rOrV, rIf, rNotV, rgName, rgTup, rgCons, rgNil, rgSub, rCallG, callK, rA0, rA1, rAK0, rAK, rFld, rIt, rLc, rLcK, rPar, rPar3, entry, shc, wipeG, allDat, datsOf, slot, put, view_p, List.nil_append, List.cons_append, List.map_cons, List.map_nil, Option.map_some, true_and, and_true, if_true, Bool.false_eq_true, if_false, addF_ii, addF_ss, addF_ll, addF_tt, iF_ii, mulF_ii, mulF_si, mulF_li, eqF_ii, eqF_ss, eqF_bb, neF_ii, neF_ss, neF_bb, cmF_ii, cmF_ss, at0, at1, at2, ixF_l, ixF_t, ixF_c, ixF_s, lenF_s, lenF_l, lenF_t, lenF_c, absF_i, maxF_ii, minF_ii, divmodF_ii, isF_n, isF_b, blC_b, blD_b, truD_b, truD_i, truD_n, truD_l, truD_t, c1F_1, c2F_2, starD_t, starD_l, isiF_eq, isiCF_eq, rNewL]
  have h18 : CPow 10 18 := ⟨by decide, by decide, by decide⟩
  refine ite_b (fun e => ?_) fun e => ?_
  · exact ⟨by decide, by show 3 ≤ sizeLine; decide, fun a => k a _ _⟩
  · refine ⟨h18, ite_b (fun e => ?_) fun e => ?_⟩
    · exact ⟨by decide, by show 3 ≤ sizeLine; decide, fun a => k a _ _⟩
    · exact ⟨by decide, by show 3 ≤ sizeLine; decide, fun a => k a _ _⟩
theorem len__law_cell {K : PySem.W.Frag} : ∀ cs m Kc KE, sp__law_cell K cs m Kc KE → cs.length = 2 := by rintro cs m Kc KE ⟨_, _, rfl, _⟩; rfl
theorem pl__law_cell (K : PySem.W.Frag) (cs : List Cv) (m : Mem) (Kc : Cv → Mem → Prop) (KE : Xn → Mem → Prop) (h : sp__law_cell K cs m Kc KE) :
    r__law_cell K { nx := fun _ m => exK false Kc (.p .non) m, rt := exK false Kc, ex := fun x _ m => KE x m.tail } (entry N__law_cell cs) ([] :: m) := by
  obtain ⟨ns, k0, rfl, hl, h0, h1, k⟩ := h
  have eN : entry N__law_cell [.p (.scr (ns.map .int)), .p (.int k0)] = [some (.p (.scr (ns.map .int))), some (.p (.int k0)), none, none] := rfl
  unfold r__law_cell
  rw [eN]
  simp only [rTe, rTr, rOp, rUn, rVar, rC, rSet, rSeq, rRet, rRetN, rIfS, rPass, rDrop, rAsg, rNil, rCons, rTup, rLst, rCB, rAnd, rOr, rNot, rAndV, rOrV, rIf, rNotV, rgName, rgTup, rgCons, rgNil, rgSub, rCallG, callK, rA0, rA1, rAK0, rAK, rFld, rIt, rLc, rLcK, rPar, rPar3, entry, shc, wipeG, allDat, datsOf, slot, put, view_p, List.nil_append, List.cons_append, List.map_cons, List.map_nil, Option.map_some, true_and, and_true, if_true, Bool.false_eq_true, if_false, addF_ii, addF_ss, addF_ll, addF_tt, iF_ii, mulF_ii, mulF_si, mulF_li, eqF_ii, eqF_ss, eqF_bb, neF_ii, neF_ss, neF_bb, cmF_ii, cmF_ss, at0, at1, at2, ixF_l, ixF_t, ixF_c, ixF_s, lenF_s, lenF_l, lenF_t, lenF_c, absF_i, maxF_ii, minF_ii, divmodF_ii, isF_n, isF_b, blC_b, blD_b, truD_b, truD_i, truD_n, truD_l, truD_t, c1F_1, c2F_2, starD_t, starD_l, isiF_eq, isiCF_eq, rSl, rO0, rO1, slF]
  have e64 : (2 : Int) ^ 64 = 18446744073709551616 := by decide
  refine ite_b (fun e => ?_) fun e => ?_
  · have hk : k0.toNat < ns.length := by
      have := of_decide_eq_true e
      rw [List.length_map] at this
      omega
    have q : atI (ns.map Dat.int) k0 = some (.int ns[k0.toNat]) := by
      have q1 : (ns.map Dat.int)[k0.toNat]? = some (.int ns[k0.toNat]) := by rw [List.getElem?_map, List.getElem?_eq_getElem hk]; rfl
      have q2 := atI_nat q1
      rwa [Int.toNat_of_nonneg h0] at q2
    rw [q]
    exact k _
  · refine ⟨.inl ⟨by omega, by omega⟩, .inl ⟨by omega, by omega⟩, .inl ⟨by decide, by decide⟩, by decide, ?_⟩
    refine forW_go (fun i g m' => m' = [] :: m ∧ ∃ (v : Int) (x : Option Cv), g = [some (.p (.scr (ns.map .int))), some (.p (.int k0)), some (.p (.int v)), x]) ⟨rfl, _, _, rfl⟩ (fun _ _ _ _ => trivial) ?_ ?_
    · rintro i d g m' hd ⟨rfl, v, x, rfl⟩ N hN
      obtain ⟨j, rfl⟩ : ∃ j : Int, d = .int j := by
        have h2 := List.mem_of_getElem? hd
        have h3 : d ∈ ns.map Dat.int := List.mem_of_mem_drop (List.mem_of_mem_take h2)
        obtain ⟨j, _, rfl⟩ := List.mem_map.mp h3
        exact ⟨j, rfl⟩
      exact ⟨.inr ⟨by decide, by decide⟩, by show (0 : Int) < 1000000007; decide, hN _ _ ⟨rfl, _, _, rfl⟩⟩
    · rintro g m' ⟨rfl, v, x, rfl⟩
      exact k v
theorem len_law {K : PySem.W.Frag} : ∀ cs m Kc KE, sp_law K cs m Kc KE → cs.length = 1 := by rintro cs m Kc KE ⟨_, rfl, _⟩; rfl
def lt24 (k : Nat) : Str := ⟨#[97 + k]⟩
def rowA : List Tp := (List.range 24).map fun k => (lt24 k, ((k : Nat) : Int), ((k : Nat) : Int) + 1)
def rowB : List Tp := (List.range 24).map fun k => (lt24 k, 0, 1)
def rowC : List Tp := (List.range 24).map fun k => (lt24 k, 24 - ((k : Nat) : Int), 10 ^ Int.toNat 59 + ((k : Nat) : Int))
def rowE : List Tp := [("a", 10 ^ Int.toNat 59, 10 ^ Int.toNat 59 + 1), ("b", 0, 10 ^ Int.toNat 59 + 1), ("c", 10 ^ Int.toNat 59 - 1, 10 ^ Int.toNat 59)]
def validB (ts : List Tp) : Bool := decide (ts.length ≤ 24) && ((ts.all fun t => nameS t.1 && (decide (0 ≤ t.2.1) && decide (t.2.1 < t.2.2))) && decide (ts.Pairwise fun a b => a.1.cps.toList < b.1.cps.toList))
theorem valid_of {ts : List Tp} (h : validB ts = true) : Valid ts := by
  unfold validB at h
  simp only [Bool.and_eq_true, decide_eq_true_eq, List.all_eq_true] at h
  exact ⟨h.1, fun t ht => h.2.1 t ht, h.2.2⟩
def nearB (ts : List Tp) : Bool := ts.all fun t => decide (t.2.2 ≤ 1000000000000000000000000000000000000000000000000000000000000000)
theorem near_of {ts : List Tp} (h : nearB ts = true) : Near ts := fun t ht => of_decide_eq_true (List.all_eq_true.mp h t ht)
theorem vA : Valid rowA ∧ Near rowA := ⟨valid_of (by decide +kernel), near_of (by decide +kernel)⟩
theorem vB : Valid rowB ∧ Near rowB := ⟨valid_of (by decide +kernel), near_of (by decide +kernel)⟩
theorem vC : Valid rowC ∧ Near rowC := ⟨valid_of (by decide +kernel), near_of (by decide +kernel)⟩
theorem vE : Valid rowE ∧ Near rowE := ⟨valid_of (by decide +kernel), near_of (by decide +kernel)⟩
theorem rA : RowsOf rowA rowA := ⟨List.Perm.refl _, by decide +kernel⟩
theorem pA : prodI (sizeL 20 rowA) = 20 ^ 24 := by decide +kernel
theorem eE : enD 0 (DL.signs (Str.ofString "abcdefghijklmnopqrstuvwx")) = (List.range 24).map fun k => Dat.tup [.int (k : Nat), .str (lt24 k)] := by rfl
theorem eS : DL.signs (Str.ofString "abcdefghijklmnopqrstuvwx") = (List.range 24).map fun k => Dat.str (lt24 k) := by rfl
theorem pl_law (K : PySem.W.Frag) (cs : List Cv) (m : Mem) (Kc : Cv → Mem → Prop) (KE : Xn → Mem → Prop) (h : sp_law K cs m Kc KE) :
    r_law K { nx := fun _ m => exK false Kc (.p .non) m, rt := exK false Kc, ex := fun x _ m => KE x m.tail } (entry N_law cs) ([] :: m) := by
  obtain ⟨ns, rfl, hl, k⟩ := h
  have eN : entry N_law [.p (.scr (ns.map .int))] = [some (.p (.scr (ns.map .int))), none, none, none, none, none, none] := rfl
  have c59 : CPow 10 59 := ⟨by decide, by decide, by decide⟩
  have c24 : CPow 20 24 := ⟨by decide, by decide, by decide⟩
  have s3 : 3 ≤ sizeLine := by decide
  unfold r_law
  rw [eN]
  simp only [rTe, rTr, rOp, rUn, rVar, rC, rSet, rSeq, rRet, rRetN, rIfS, rPass, rDrop, rAsg, rNil, rCons, rTup, rLst, rCB, rAnd, rOr, rNot, rAndV, rOrV, rIf, rNotV, rgName, rgTup, rgCons, rgNil, rgSub, rCallG, callK, rA0, rA1, rAK0, rAK, rFld, rIt, rLc, rLcK, rPar, rPar3, entry, shc, wipeG, allDat, datsOf, slot, put, view_p, List.nil_append, List.cons_append, List.map_cons, List.map_nil, Option.map_some, true_and, and_true, if_true, Bool.false_eq_true, if_false, addF_ii, addF_ss, addF_ll, addF_tt, iF_ii, mulF_ii, mulF_si, mulF_li, eqF_ii, eqF_ss, eqF_bb, neF_ii, neF_ss, neF_bb, cmF_ii, cmF_ss, at0, at1, at2, ixF_l, ixF_t, ixF_c, ixF_s, lenF_s, lenF_l, lenF_t, lenF_c, absF_i, maxF_ii, minF_ii, divmodF_ii, isF_n, isF_b, blC_b, blD_b, truD_b, truD_i, truD_n, truD_l, truD_t, c1F_1, c2F_2, starD_t, starD_l, isiF_eq, isiCF_eq, rEnS, rNewL]
  refine lc_natE eE (fun k => tpD (lt24 k, ((k : Nat) : Int), ((k : Nat) : Int) + 1)) (by decide) (fun k hk Kc q => ⟨rfl, s3, q⟩) ?_
  refine ⟨by decide, fun p0 => ?_⟩
  refine lc_natE eS (fun k => tpD (lt24 k, 0, 1)) (by decide) (fun k hk Kc q => ⟨s3, q⟩) ?_
  refine ⟨by show 1 < sizeLine; decide, ?_⟩
  refine lc_natE eE (fun k => tpD (lt24 k, 24 - ((k : Nat) : Int), 10 ^ Int.toNat 59 + ((k : Nat) : Int))) (by decide) (fun k hk Kc q => ⟨rfl, trivial, c59, s3, q⟩) ?_
  refine ⟨by show 2 < sizeLine; decide, ?_⟩
  refine ⟨c59, c59, s3, c59, s3, c59, trivial, c59, s3, s3, ?_⟩
  refine ⟨by show 3 < sizeLine; decide, ?_⟩
  refine ⟨by show 5 ≤ sizeLine; decide, ?_⟩
  refine forW_go (fun j g m' => m' = [(p0, Lo.lst [.tup (rowA.map tpD), .tup (rowB.map tpD), .tup (rowC.map tpD), .tup (rowE.map tpD)])] :: m ∧ ∃ x, g = [some (.p (.scr (ns.map .int))), some (.p (.str (Str.ofString "abcdefghijklmnopqrstuvwx"))), some (.l 0 0), none, none, x, none]) ⟨?_, _, rfl⟩ (fun _ _ _ _ => trivial) ?_ ?_
  · rfl
  · rintro j dd g m' hd ⟨rfl, x, rfl⟩ N hN
    obtain ⟨v, rfl, v1, v2⟩ : ∃ v : Int, dd = .int v ∧ 1 ≤ v ∧ v ≤ 20 := by
      have := List.mem_of_getElem? hd
      simp only [List.mem_cons, List.not_mem_nil, or_false] at this
      rcases this with rfl | rfl | rfl | rfl | rfl <;> exact ⟨_, rfl, by decide, by decide⟩
    refine ⟨by decide, rfl, v, [], rfl, v1, v2, nil_valid, fun t ht => (by cases ht), ?_⟩
    simp only [rTe, rTr, rOp, rUn, rVar, rC, rSet, rSeq, rRet, rRetN, rIfS, rPass, rDrop, rAsg, rNil, rCons, rTup, rLst, rCB, rAnd, rOr, rNot, rAndV, rOrV, rIf, rNotV, rgName, rgTup, rgCons, rgNil, rgSub, rCallG, callK, rA0, rA1, rAK0, rAK, rFld, rIt, rLc, rLcK, rPar, rPar3, entry, shc, wipeG, allDat, datsOf, slot, put, view_p, List.nil_append, List.cons_append, List.map_cons, List.map_nil, Option.map_some, true_and, and_true, if_true, Bool.false_eq_true, if_false, addF_ii, addF_ss, addF_ll, addF_tt, iF_ii, mulF_ii, mulF_si, mulF_li, eqF_ii, eqF_ss, eqF_bb, neF_ii, neF_ss, neF_bb, cmF_ii, cmF_ss, at0, at1, at2, ixF_l, ixF_t, ixF_c, ixF_s, lenF_s, lenF_l, lenF_t, lenF_c, absF_i, maxF_ii, minF_ii, divmodF_ii, isF_n, isF_b, blC_b, blD_b, truD_b, truD_i, truD_n, truD_l, truD_t, c1F_1, c2F_2, starD_t, starD_l, isiF_eq, isiCF_eq]
    rw [if_neg (by decide)]
    refine lcW_map (st := fun m => mget m 0 0 = some (p0, Lo.lst [.tup (rowA.map tpD), .tup (rowB.map tpD), .tup (rowC.map tpD), .tup (rowE.map tpD)])) (fun _ => .bl true) ([(p0, Lo.lst [.tup (rowA.map tpD), .tup (rowB.map tpD), .tup (rowC.map tpD), .tup (rowE.map tpD)])] :: m) rfl [.tup (rowA.map tpD), .tup (rowB.map tpD), .tup (rowC.map tpD), .tup (rowE.map tpD)] [] (by show 0 + 4 ≤ sizeLine; decide) (fun d hd Kc q => ?_) ?_
    · obtain ⟨l, rfl, lv, ln⟩ : ∃ l, d = .tup (List.map tpD l) ∧ Valid l ∧ Near l := by
        simp only [List.mem_cons, List.not_mem_nil, or_false] at hd
        rcases hd with rfl | rfl | rfl | rfl
        · exact ⟨_, rfl, vA⟩
        · exact ⟨_, rfl, vB⟩
        · exact ⟨_, rfl, vC⟩
        · exact ⟨_, rfl, vE⟩
      exact ⟨rfl, v, l, rfl, v1, v2, lv, ln, q⟩
    · exact all_true (j := 4) (hN _ _ ⟨rfl, _, rfl⟩)
  · rintro g m' ⟨rfl, x, rfl⟩
    simp only [rTe, rTr, rOp, rUn, rVar, rC, rSet, rSeq, rRet, rRetN, rIfS, rPass, rDrop, rAsg, rNil, rCons, rTup, rLst, rCB, rAnd, rOr, rNot, rAndV, rOrV, rIf, rNotV, rgName, rgTup, rgCons, rgNil, rgSub, rCallG, callK, rA0, rA1, rAK0, rAK, rFld, rIt, rLc, rLcK, rPar, rPar3, entry, shc, wipeG, allDat, datsOf, slot, put, view_p, List.nil_append, List.cons_append, List.map_cons, List.map_nil, Option.map_some, true_and, and_true, if_true, Bool.false_eq_true, if_false, addF_ii, addF_ss, addF_ll, addF_tt, iF_ii, mulF_ii, mulF_si, mulF_li, eqF_ii, eqF_ss, eqF_bb, neF_ii, neF_ss, neF_bb, cmF_ii, cmF_ss, at0, at1, at2, ixF_l, ixF_t, ixF_c, ixF_s, lenF_s, lenF_l, lenF_t, lenF_c, absF_i, maxF_ii, minF_ii, divmodF_ii, isF_n, isF_b, blC_b, blD_b, truD_b, truD_i, truD_n, truD_l, truD_t, c1F_1, c2F_2, starD_t, starD_l, isiF_eq, isiCF_eq, rMake, isCl, rSl, rO0, rO1, rRg1, rProp, isInP, rEn, rEnS, rAug, rChain, slF_s, slF_t, slF_l, slF_c, rStat, rStatI, rMeth, rCVal, rNewL, rRg2, rLenX, one]
    refine ixF_lst (ds := [.tup (rowA.map tpD), .tup (rowB.map tpD), .tup (rowC.map tpD), .tup (rowE.map tpD)]) (x := .tup (rowA.map tpD)) at0 ?_
    refine ⟨rfl, fun a1 => ⟨0, 0, a1, 20, rowA, rfl, rfl, by decide, by decide, vA.1, fun rs hrs => ⟨rfl, rfl, 20, rowA, rs, rfl, ⟨by decide, by decide, vA.1, hrs⟩, c24, ?_⟩⟩⟩
    obtain rfl := rows_uniq vA.1.asc rA hrs
    have e : (!decide (prodI (sizeL 20 rowA) = (20 : Int) ^ Int.toNat 24)) = false := by rw [pA]; decide
    rw [view_p, neF_ii, blC_b, e]
    simp only [Bool.false_eq_true, if_false]
    have c20 : cutD (rowB.map tpD) none (some ((20 : Nat) : Int)) = (rowB.take 20).map tpD := by rw [cutD_to, ← List.map_take]
    have vB' := vB.1.sub (List.take_sublist 20 rowB)
    refine ixF_lst (ds := [.tup (rowA.map tpD), .tup (rowB.map tpD), .tup (rowC.map tpD), .tup (rowE.map tpD)]) (x := .tup (rowB.map tpD)) at1 ?_
    rw [slF_t, show (20 : Int) = ((20 : Nat) : Int) from rfl, c20]
    refine ⟨rfl, fun a2 => ⟨0, 0, a2, ((20 : Nat) : Int), rowB.take 20, rfl, rfl, by decide, by decide, vB', fun rs2 hrs2 => ⟨rfl, rfl, ((20 : Nat) : Int), rowB.take 20, rs2, rfl, ⟨by decide, by decide, vB', hrs2⟩, ?_⟩⟩⟩
    refine ixF_lst (ds := [.tup (rowA.map tpD), .tup (rowB.map tpD), .tup (rowC.map tpD), .tup (rowE.map tpD)]) (x := .tup (rowB.map tpD)) at1 ?_
    rw [slF_t, c20]
    refine ⟨rfl, ((20 : Nat) : Int), rowB.take 20, rfl, vB', by decide, by decide, fun rs3 hrs3 => ?_⟩
    obtain rfl := rows_uniq vB'.asc hrs2 hrs3
    rw [view_p, neF_ii, blC_b, decide_eq_true rfl]
    simp only [Bool.not_true, Bool.false_eq_true, if_false]
    rw [List.length_map]
    refine .inl (.inl ?_)
    exact ⟨(law_range (by decide)).1, law_all_m hl (law_range (by decide)).2 (fun _ => rfl) (fun _ => rfl) fun f => all_true (k _)⟩
/-! ### together -/
section
variable {P : Program} {w : World} {K : PySem.W.Frag} {mg : Str → Option Value} {base : Heap}
theorem mkFc (Z : Zed K mg) : Fc K := ⟨zq60 Z⟩
theorem p_is_whole (Z : Zed K mg) : Pm P w K mg base 1 dq_is_whole ["thing"] (sp_is_whole K) := Pm.of false (zf_is_whole Z) sc_is_whole len_is_whole (w_is_whole Z ) (pl_is_whole K)
theorem p_is_between (Z : Zed K mg) : Pm P w K mg base 2 dq_is_between ["thing", "least", "most"] (sp_is_between K) := Pm.of false (zf_is_between Z) sc_is_between len_is_between (w_is_between Z (p_is_whole Z)) (pl_is_between K)
theorem p_check_seats (Z : Zed K mg) : Pm P w K mg base 3 dq_check_seats ["thing"] (sp_check_seats K) := Pm.of false (zf_check_seats Z) sc_check_seats len_check_seats (w_check_seats Z (p_is_between Z)) (pl_check_seats K)
theorem p_is_name (Z : Zed K mg) : Pm P w K mg base 1 dq_is_name ["thing"] (sp_is_name K) := Pm.of false (zf_is_name Z) sc_is_name len_is_name (w_is_name Z ) (pl_is_name K)
theorem p_is_from (Z : Zed K mg) : Pm P w K mg base 2 dq_is_from ["thing", "least"] (sp_is_from K) := Pm.of false (zf_is_from Z) sc_is_from len_is_from (w_is_from Z (p_is_whole Z)) (pl_is_from K)
theorem p_is_trip (Z : Zed K mg) : Pm P w K mg base 3 dq_is_trip ["thing"] (sp_is_trip K) := Pm.of false (zf_is_trip Z) sc_is_trip len_is_trip (w_is_trip Z (p_is_name Z) (p_is_whole Z) (p_is_from Z)) (pl_is_trip K)
theorem p_first_wrong (Z : Zed K mg) : Pm P w K mg base 4 dq_first_wrong ["thing"] (sp_first_wrong K) := Pm.of false (zf_first_wrong Z) sc_first_wrong len_first_wrong (w_first_wrong Z (p_is_trip Z)) (pl_first_wrong K)
theorem p_by_start (Z : Zed K mg) : Pm P w K mg base 1 dq_by_start ["trips"] (sp_by_start K) := Pm.of false (zf_by_start Z) sc_by_start len_by_start (w_by_start Z ) (pl_by_start K)
theorem p_Line___init__ (Z : Zed K mg) : Pm P w K mg base 5 dq_Line___init__ ["self", "seats", "trips"] (sp_Line___init__ K) := Pm.of false (zf_Line___init__ Z) sc_Line___init__ len_Line___init__ (w_Line___init__ Z (p_check_seats Z) (p_first_wrong Z) (p_by_start Z)) (pl_Line___init__ K)
theorem p__law_by_start (Z : Zed K mg) : Pm P w K mg base 1 dq__law_by_start ["rides"] (sp__law_by_start K) := Pm.of false (zf__law_by_start Z) sc__law_by_start len__law_by_start (w__law_by_start Z ) (pl__law_by_start K)
theorem p__law_load (Z : Zed K mg) : Pm P w K mg base 1 dq__law_load ["rides", "place"] (sp__law_load K) := Pm.of false (zf__law_load Z) sc__law_load len__law_load (w__law_load Z ) (pl__law_load K)
theorem p__law_meet (Z : Zed K mg) : Pm P w K mg base 1 dq__law_meet ["one_ride", "more_ride"] (sp__law_meet K) := Pm.of false (zf__law_meet Z) sc__law_meet len__law_meet (w__law_meet Z ) (pl__law_meet K)
theorem p__law_product (Z : Zed K mg) : Pm P w K mg base 2 dq__law_product ["width", "rides"] (sp__law_product K) := Pm.of false (zf__law_product Z) sc__law_product len__law_product (w__law_product Z (p__law_by_start Z) (p__law_meet Z)) (pl__law_product K)
theorem p_check_line (Z : Zed K mg) : Pm P w K mg base 1 dq_check_line ["thing"] (sp_check_line K) := Pm.of false (zf_check_line Z) sc_check_line len_check_line (w_check_line Z ) (pl_check_line K (mkFc Z))
theorem p_Line___len__ (Z : Zed K mg) : Pm P w K mg base 1 dq_Line___len__ ["self"] (sp_Line___len__ K) := Pm.of false (zf_Line___len__ Z) sc_Line___len__ len_Line___len__ (w_Line___len__ Z ) (pl_Line___len__ K)
theorem p_Line_capacity (Z : Zed K mg) : Pm P w K mg base 1 dq_Line_capacity ["self"] (sp_Line_capacity K) := Pm.of false (zf_Line_capacity Z) sc_Line_capacity len_Line_capacity (w_Line_capacity Z ) (pl_Line_capacity K)
theorem p_meet (Z : Zed K mg) : Pm P w K mg base 1 dq_meet ["one", "other"] (sp_meet K) := Pm.of false (zf_meet Z) sc_meet len_meet (w_meet Z ) (pl_meet K)
theorem p_earlier (Z : Zed K mg) : Pm P w K mg base 2 dq_earlier ["line", "index"] (sp_earlier K) := Pm.of false (zf_earlier Z) sc_earlier len_earlier (w_earlier Z (p_meet Z)) (pl_earlier K)
theorem p_sizes_of (Z : Zed K mg) : Pm P w K mg base 3 dq_sizes_of ["line"] (sp_sizes_of K) := Pm.of false (zf_sizes_of Z) sc_sizes_of len_sizes_of (w_sizes_of Z (p_Line___len__ Z) (p_Line_capacity Z) (p_earlier Z)) (pl_sizes_of K)
theorem p_count (Z : Zed K mg) : Pm P w K mg base 4 dq_count ["line"] (sp_count K) := Pm.of false (zf_count Z) sc_count len_count (w_count Z (p_check_line Z) (p_sizes_of Z)) (pl_count K)
theorem p_passes (Z : Zed K mg) : Pm P w K mg base 1 dq_passes ["trip", "station"] (sp_passes K) := Pm.of false (zf_passes Z) sc_passes len_passes (w_passes Z ) (pl_passes K)
theorem p_load_of (Z : Zed K mg) : Pm P w K mg base 2 dq_load_of ["trips", "station"] (sp_load_of K) := Pm.of false (zf_load_of Z) sc_load_of len_load_of (w_load_of Z (p_passes Z)) (pl_load_of K)
theorem p_Line_load (Z : Zed K mg) : Pm P w K mg base 3 dq_Line_load ["self", "station"] (sp_Line_load K) := Pm.of false (zf_Line_load Z) sc_Line_load len_Line_load (w_Line_load Z (p_is_from Z) (p_load_of Z)) (pl_Line_load K)
theorem p_overfull (Z : Zed K mg) : Pm P w K mg base 4 dq_overfull ["line"] (sp_overfull K) := Pm.of false (zf_overfull Z) sc_overfull len_overfull (w_overfull Z (p_check_line Z) (p_Line_load Z) (p_Line_capacity Z)) (pl_overfull K)
theorem p__law_told (Z : Zed K mg) : Pm P w K mg base 7 dq__law_told ["width", "rides"] (sp__law_told K) := Pm.of false (zf__law_told Z) sc__law_told len__law_told (w__law_told Z (p_Line___init__ Z) (p__law_by_start Z) (p__law_load Z) (p__law_product Z) (p_count Z) (p_overfull Z)) (pl__law_told K)
theorem p__law_draw (Z : Zed K mg) : Pm P w K mg base 1 dq__law_draw ["pool", "many"] (sp__law_draw K) := Pm.of false (zf__law_draw Z) sc__law_draw len__law_draw (w__law_draw Z ) (pl__law_draw K)
theorem p__law_far (Z : Zed K mg) : Pm P w K mg base 2 dq__law_far ["pool", "high"] (sp__law_far K) := Pm.of false (zf__law_far Z) sc__law_far len__law_far (w__law_far Z (p__law_draw Z)) (pl__law_far K)
theorem p__law_rides (Z : Zed K mg) : Pm P w K mg base 3 dq__law_rides ["pool", "words", "high"] (sp__law_rides K) := Pm.of false (zf__law_rides Z) sc__law_rides len__law_rides (w__law_rides Z (p__law_far Z) (p__law_draw Z)) (pl__law_rides K)
theorem p__law_words (Z : Zed K mg) : Pm P w K mg base 2 dq__law_words ["pool", "many"] (sp__law_words K) := Pm.of false (zf__law_words Z) sc__law_words len__law_words (w__law_words Z (p__law_draw Z)) (pl__law_words K)
theorem p__law_peak (Z : Zed K mg) : Pm P w K mg base 2 dq__law_peak ["rides"] (sp__law_peak K) := Pm.of false (zf__law_peak Z) sc__law_peak len__law_peak (w__law_peak Z (p__law_load Z)) (pl__law_peak K)
theorem p__law_long_case (Z : Zed K mg) : Pm P w K mg base 4 dq__law_long_case ["pool"] (sp__law_long_case K) := Pm.of false (zf__law_long_case Z) sc__law_long_case len__law_long_case (w__law_long_case Z (p__law_draw Z) (p__law_rides Z) (p__law_words Z) (p__law_peak Z)) (pl__law_long_case K)
theorem p__law_right (Z : Zed K mg) : Pm P w K mg base 8 dq__law_right ["pool"] (sp__law_right K) := Pm.of false (zf__law_right Z) sc__law_right len__law_right (w__law_right Z (p__law_long_case Z) (p__law_told Z) (p__law_rides Z) (p__law_draw Z)) (pl__law_right K)
theorem p__law_pool (Z : Zed K mg) : Pm P w K mg base 1 dq__law_pool ["cell"] (sp__law_pool K) := Pm.of true (zf__law_pool Z) sc__law_pool len__law_pool (w__law_pool Z ) (pl__law_pool K)
theorem p__law_cell (Z : Zed K mg) : Pm P w K mg base 1 dq__law_cell ["script", "k"] (sp__law_cell K) := Pm.of false (zf__law_cell Z) sc__law_cell len__law_cell (w__law_cell Z ) (pl__law_cell K)
theorem p_law (Z : Zed K mg) : Pm P w K mg base 9 dq_law ["script"] (sp_law K) := Pm.of false (zf_law Z) sc_law len_law (w_law Z (p__law_told Z) (p_count Z) (p_Line___init__ Z) (p__law_product Z) (p__law_right Z) (p__law_pool Z) (p__law_cell Z)) (pl_law K)
end
abbrev hk : PySem.W.Hook := hookQ 6 fa fn
def ob (s : PySem.W.SharedT) : He.AlD := obsQG 6 fa fn (HandSHeadRun.getT s)
theorem ob_eq (s : PySem.W.SharedT) : ob s = hk.obs s.abs := obsQG_eq (HandSHeadRun.getT_eq s)
def loose : List Str := [Str.ofString "_wall", Str.ofString "LETTERS", Str.ofString "DIGITS", Str.ofString "is_whole", Str.ofString "is_from", Str.ofString "is_between", Str.ofString "is_name", Str.ofString "is_trip", Str.ofString "read_number", Str.ofString "meet", Str.ofString "passes", Str.ofString "SeatError", Str.ofString "InvalidSeats", Str.ofString "InvalidTrips", Str.ofString "InvalidName", Str.ofString "InvalidStation", Str.ofString "InvalidText", Str.ofString "NotALine", Str.ofString "MAX_SEATS", Str.ofString "MAX_TRIPS", Str.ofString "check_seats", Str.ofString "first_wrong", Str.ofString "by_start", Str.ofString "trip_text", Str.ofString "read_trip", Str.ofString "Line", Str.ofString "load_of", Str.ofString "check_line", Str.ofString "earlier", Str.ofString "sizes_of", Str.ofString "overfull", Str.ofString "count", Str.ofString "_law_cell", Str.ofString "_law_pool", Str.ofString "_law_draw", Str.ofString "_law_words", Str.ofString "_law_far", Str.ofString "_law_rides", Str.ofString "_law_meet", Str.ofString "_law_by_start", Str.ofString "_law_load", Str.ofString "_law_peak", Str.ofString "_law_product", Str.ofString "_law_long_case", Str.ofString "_law_told", Str.ofString "_law_right"]
theorem run (w : World) : HandSHeadRun.RunEq R (PySem.W.view R.prog [51]) hk ob 20000 loose w := by
  intro os
  kernel_rfl
theorem ends (ns : List Int) (hl : ns.length ≤ 63) (K : PySem.W.Frag) (Kc : Cv → Mem → Prop) (h : ∀ m, Kc (.p (.bl true)) m) : sp_law K [.p (.scr (ns.map .int))] [] Kc fun _ _ => False := law_end ns hl K Kc h
end Lw
open PySem PySem.W PySem.Calls PyProof.Rows
theorem PySem.Challenge.cw_seatchains_k12_overfull_and_count_holds : PySem.Challenge.rw_seatchains_k12_overfull_and_count.Holds := by
  w_on; o_law
  refine HandSHeadRun.head_any (r := OpenLaw.row PySem.Challenge.rw_seatchains_k12_overfull_and_count) (q := view (OpenLaw.row PySem.Challenge.rw_seatchains_k12_overfull_and_count).prog [51]) (H := Lw.hk) (ob := Lw.ob) (M := 20000) (loose := Lw.loose) (d := HandSHeadRun.topDef (OpenLaw.row PySem.Challenge.rw_seatchains_k12_overfull_and_count).prog 51) (kwd := []) Lw.ob_eq
    (by kernel_rfl) (fun s => by kernel_rfl) Lw.run (by kernel_rfl) (by kernel_rfl) (by kernel_rfl) (by rfl) (by first | assumption | decide +kernel) (by decide +kernel) ⟨rfl, rfl, rfl, rfl, rfl, by decide +kernel⟩ ?hw ?hc
  case hw => w_witness2
  case hc =>
    refine DL.law_of (l := PySem.Challenge.rw_seatchains_k12_overfull_and_count) (n := 63) (k := 9) (x := "script") rfl (by decide) (by kernel_rfl) ⟨rfl, by decide, by decide⟩ ?F
    intro w mg fa h Y G hm0
    obtain ⟨K, X, c⟩ := Y
    have Z : Lw.Zed K mg := ⟨h, X, G, c⟩
    have hm1 : mg ("law" : PySem.Str) = some (.ref fa) := by
      have e : (HandSHeadRun.topDef (OpenLaw.row PySem.Challenge.rw_seatchains_k12_overfull_and_count).prog 51).name = ("law" : PySem.Str) := by kernel_rfl
      rw [← e]; exact hm0
    cases hm1.symm.trans (Lw.zq59 Z)
    obtain ⟨fd, F⟩ := Lw.zf_law Z
    refine ⟨K, fd, X, fun s u => L2.FunD.bindsA (ps := ["script"]) F (fun _ _ _ _ _ _ us hl => match us, hl with | [_], _ => rfl) s [u] rfl, Lw.sp_law K, fun ns Kc hl hk => Lw.ends ns hl K Kc hk, fun base _ _ => ?_⟩
    obtain ⟨fd', F', D⟩ := (Lw.p_law (P := (PySem.Challenge.rw_seatchains_k12_overfull_and_count).prog) (w := w) (base := base) Z).ex
    exact DL.DFn.ofFun F F' D
