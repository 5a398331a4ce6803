import PyProof.Rows.All
import Wide.All
import OpenK.AllK
import Wide.FinOn
import HandS.ForMost
import HandS.SetBool
import HandS.DictTup
import HandS.Call
import KE.KStateDown
import HandS.Exc
import HandS.TryOnly
import HandS.ExcOwn
import HandS.WordsExc
import HandS.Defaults
import HandS.Wide
import HandS.IsInst
import HandS.Style
import HandS.HeadHook2
import HandS.Zip
import HandS.TupAny
import HandS.TupMul
import HandS.SortInts
import HandS.Head0
import HandS.Head1
import HandS.Head2
import HandS.HeadEnd
import HandS.HeadHook1
import HandS.HeadWalk
import HandS.Strs
import HandS.SetFor
import HandS.Conv
import HandS.DictComp
import HandS.ExcInit
import HandS.ExcField
import HandS.ExcIs
import KE.KExcIs
import HandS.List
import HandS.More
import HandS.Dict
import HandS.RaiseMore
import PyProof.Rows.CallKw2
import PyProof.Rows.MinMaxN
import PyProof.WalksMore
import PyProof.CollectIter
import HandS.Deep
import HandS.IterVal
import HandS.HeadHook3
import KE.KDictZip
import KE.KItemsList
import HandS.WideBits
import PyProof.Rows.RegIntBool
import HandS.Flow
import PyProof.CallStr
import KE.SortData
import KE.KCallOwn
import HandS.FStr
import HandS.WordsDict
import KE.KTryMore
import HandS.ExcValue
import PySem.Challenge.RW_turnsums_k48_what_orders_are
set_option Elab.async false
set_option linter.all false
set_option maxRecDepth 100000
set_option maxHeartbeats 4000000
namespace ZD
open PySem PySem.Spec PyProof.Rows L2

abbrev ZK := Int × Bool
def nk (k : ZK) : List Int := [k.1, PpSet.b2 k.2]
theorem nk_inj {a b : ZK} (h : nk a = nk b) : a = b := by
  obtain ⟨i, x⟩ := a
  obtain ⟨j, y⟩ := b
  simp only [nk, List.cons.injEq] at h
  obtain ⟨rfl, h, _⟩ := h
  cases x <;> cases y <;> first | rfl | (exact absurd h (by decide))
def zV (k : ZK) : List V := [.int k.1, .bl k.2]
def zHash (ks : List Int) : Int := reduceHash (Builtin.Tuple.tupleHashOf (ks.map hashInt))
def zEnt (x : List Int × Addr × Value) : DictEntry := ⟨zHash x.1, .ref x.2.1, x.2.2⟩
abbrev KZ : List (ZK × V) → List (List Int × Addr × Value) → Prop := Paired fun p q => q.1 = nk p.1 ∧ RelV p.2 q.2.2
abbrev TZ (H : Hp) : List (ZK × V) → List Addr → Prop := Paired fun p b => H b = some (.tup (zV p.1))
def dzP (a : Addr) (kvs : List (ZK × V)) (bs : List Addr) (h : Heap) : Prop :=
  ∃ (xs : List (List Int × Addr × Value)) (o : Obj) (es : Array DictEntry) (ep : Nat), KZ kvs xs ∧ xs.map (·.2.1) = bs ∧ kvs.length ≤ sizeLine ∧ (a == sysModules) = false ∧
    h.get? a = some o ∧ o.ExactDict ∧ o.data = .dict es ep ∧ es.toList = xs.map zEnt ∧ (xs.map (·.1)).Nodup
def dzO (a : Addr) (kvs : List (ZK × V)) (bs : List Addr) : HO := .ext (dzP a kvs bs)
def HZ (H : Hp) (a : Addr) (kvs : List (ZK × V)) : Prop := ∃ bs, H a = some (dzO a kvs bs) ∧ TZ H kvs bs
theorem HZ.to {H H' : Hp} {a : Addr} {kvs : List (ZK × V)} (z : HZ H a kvs) (k : ∀ u, H a = some u → H' a = some u) (t : ∀ b xs, H b = some (.tup xs) → H' b = some (.tup xs)) : HZ H' a kvs := by
  obtain ⟨bs, e, r⟩ := z
  exact ⟨bs, k _ e, Paired.mapP r fun _ _ z => t _ _ z⟩
theorem KZ.val {kvs : List (ZK × V)} {xs : List (List Int × Addr × Value)} (r : KZ kvs xs) (k : ZK) : RelO (valV kvs k) ((atKey xs (nk k)).map (·.2)) := by
  induction r with
  | nil => exact True.intro
  | @cons p q ps qs h t ih =>
    obtain ⟨h1, h2⟩ := h
    by_cases e : p.1 = k
    · have e' : q.1 = nk k := by rw [h1, e]
      have b : atKey (q :: qs) (nk k) = some q.2 := by simp [atKey, List.find?_cons, e']
      rw [valV_pos e, b]; exact h2
    · have e' : ¬ q.1 = nk k := fun z => e (nk_inj (h1.symm.trans z))
      have b : atKey (q :: qs) (nk k) = atKey qs (nk k) := by simp [atKey, List.find?_cons, e']
      rw [valV_neg e, b]; exact ih
theorem KZ.repl {kvs : List (ZK × V)} {xs : List (List Int × Addr × Value)} (r : KZ kvs xs) (k : ZK) {y : V} {u : Value} (ry : RelV y u) :
    KZ (kvs.map fun kv => if kv.1 = k then (kv.1, y) else kv) (xs.map (putAt (nk k) u)) := by
  induction r with
  | nil => exact .nil
  | @cons p q ps qs h t ih =>
    rw [List.map_cons, List.map_cons]
    refine .cons ?_ ih
    obtain ⟨h1, h3⟩ := h
    unfold putAt
    by_cases e : p.1 = k
    · rw [if_pos e, if_pos (by rw [h1, e])]; exact ⟨h1, ry⟩
    · rw [if_neg e, if_neg (fun z => e (nk_inj (h1.symm.trans z)))]; exact ⟨h1, h3⟩
theorem TZ.repl {H : Hp} {kvs : List (ZK × V)} {bs : List Addr} (r : TZ H kvs bs) (k : ZK) {y : V} : TZ H (kvs.map fun kv => if kv.1 = k then (kv.1, y) else kv) bs := by
  induction r with
  | nil => exact .nil
  | @cons p q ps qs h t ih =>
    rw [List.map_cons]
    refine .cons ?_ ih
    by_cases e : p.1 = k
    · rw [if_pos e]; exact h
    · rw [if_neg e]; exact h
section
variable {X : Cx} {pins : List (Addr × Obj)} {σ : L2.St} {H : Hp} {s : Shared} {a b : Addr} {kvs : List (ZK × V)} {k : ZK} {v : V} {r : Value} {A : Around} {E : Value → Shared → Prop}
end
section
variable {X : Cx} {o i value : Expr} {pos pos' : Pos} {td ty tv : TE}
end
end ZD

namespace SV
open PySem PySem.Spec PyProof.Rows L2

inductive D where
  | non | bl (b : Bool) | int (i : Int) | str (x : Str) | fn (x : Str) | ty (n : String)
  | tup (xs : List D)
  | lst (o : Bool) (xs : List D)
  | ro (xs : List D)
  | dct (o : Bool) (ks : List Key) (vs : List D)
  | dz (o : Bool) (ks : List ZD.ZK) (vs : List D)
  | ins (o : Bool) (x : Str) (ns : List Str) (vs : List D)
  | xc (x : Str) (w : D)

mutual
def frz : D → D
  | .non => .non
  | .bl b => .bl b
  | .int i => .int i
  | .str x => .str x
  | .fn x => .fn x
  | .ty n => .ty n
  | .tup xs => .tup (frzL xs)
  | .lst _ xs => .lst false (frzL xs)
  | .ro xs => .ro (frzL xs)
  | .dct _ ks vs => .dct false ks (frzL vs)
  | .dz _ ks vs => .dz false ks (frzL vs)
  | .ins _ x ns vs => .ins false x ns (frzL vs)
  | .xc x w => .xc x (frz w)
def frzL : List D → List D
  | [] => []
  | d :: r => frz d :: frzL r
end
mutual
def frzd : D → Bool
  | .tup xs => frzdL xs
  | .lst o xs => !o && frzdL xs
  | .ro xs => frzdL xs
  | .dct o _ vs => !o && frzdL vs
  | .dz o _ vs => !o && frzdL vs
  | .ins o _ _ vs => !o && frzdL vs
  | .xc _ w => frzd w
  | _ => true
def frzdL : List D → Bool
  | [] => true
  | d :: r => frzd d && frzdL r
end
mutual
def flat : D → Bool
  | .non => true
  | .bl _ => true
  | .int _ => true
  | .str _ => true
  | .fn _ => true
  | .ty _ => true
  | .tup xs => flatL xs
  | _ => false
def flatL : List D → Bool
  | [] => true
  | d :: r => flat d && flatL r
end
mutual
def nofz : D → Bool
  | .tup xs => nofzL xs
  | .lst o xs => o && nofzL xs
  | .ro _ => false
  | .dct o _ vs => o && nofzL vs
  | .dz o _ vs => o && nofzL vs
  | .ins o _ _ vs => o && nofzL vs
  | .xc _ _ => false
  | _ => true
def nofzL : List D → Bool
  | [] => true
  | d :: r => nofz d && nofzL r
end

def xco (a : Addr) (cls : Value) (ed : Addr) : HO := .ext fun h => ∃ oe, h.get? a = some oe ∧ Zc cls (some ed) oe ∧ ∃ vs, oe.data = .fields vs
inductive Own where
  | sl (i : Nat) (p : List Nat)
  | res (p : List Nat)
  | oth
abbrev Om := Addr → Option Own
def tk (o : Bool) (x : Own) : Option Own := if o then some x else none

def TupAt (K : PySem.W.Frag) (H : Hp) (a : Addr) (vs : List V) : Prop :=
  H a = some (.tup vs) ∨ ∃ (o : Obj) (its : Array Value) (n : Nat), K.lookup a = some o ∧ o.cls = .type "tuple" ∧ o.data = .seq its n ∧ its.size ≤ sizeLine ∧ Vals vs its.toList
theorem TupAt.sq {K : PySem.W.Frag} {H : Hp} {a : Addr} {vs : List V} (h : TupAt K H a vs) : SqT K H a vs := by
  rcases h with h | h
  · exact .inl (.inl h)
  · exact .inr h
def RoAt (K : PySem.W.Frag) (H : Hp) (ω : Om) (a : Addr) (vs : List V) : Prop :=
  (Rd H a (.lst vs) ∧ ω a = none) ∨ ∃ (o : Obj) (its : Array Value) (n : Nat), K.lookup a = some o ∧ o.cls = .type "list" ∧ o.dict = none ∧ o.data = .seq its n ∧ its.size ≤ sizeLine ∧ Vals vs its.toList
theorem RoAt.sq {K : PySem.W.Frag} {H : Hp} {ω : Om} {a : Addr} {vs : List V} (h : RoAt K H ω a vs) : SqL K H a vs := by
  rcases h with h | h
  · exact .inl h.1
  · exact .inr h

mutual
inductive Rep (K : PySem.W.Frag) (H : Hp) (ω : Om) (τ : List Nat → Own) : List Nat → D → V → Prop
  | non {p} : Rep K H ω τ p .non .non
  | bl {p b} : Rep K H ω τ p (.bl b) (.bl b)
  | int {p i} : Rep K H ω τ p (.int i) (.int i)
  | str {p x} : Rep K H ω τ p (.str x) (.str x)
  | fn {p x} : Rep K H ω τ p (.fn x) (.ref (He.ga K x))
  | ty {p n} : Rep K H ω τ p (.ty n) (.ty n)
  | tup {p a xs vs} : TupAt K H a vs → Reps K H ω τ p 0 xs vs → Rep K H ω τ p (.tup xs) (.ref a)
  | lst {p a o xs vs} : H a = some (.lst vs) → ω a = tk o (τ p) → Reps K H ω τ p 0 xs vs → Rep K H ω τ p (.lst o xs) (.ref a)
  | ro {p a xs vs} : RoAt K H ω a vs → Reps K H ω τ p 0 xs vs → Rep K H ω τ p (.ro xs) (.ref a)
  | dct {p a o ks xs vs} : H a = some (.dK (ks.zip vs)) → ks.length = vs.length → ω a = tk o (τ p) → Reps K H ω τ p 0 xs vs → Rep K H ω τ p (.dct o ks xs) (.ref a)
  | dz {p a o ks xs vs} : ZD.HZ H a (ks.zip vs) → ks.length = vs.length → ω a = tk o (τ p) → Reps K H ω τ p 0 xs vs → Rep K H ω τ p (.dz o ks xs) (.ref a)
  | ins {p a o x dx ns xs vs} : H a = some (.ins (He.ga K x) dx (ns.zip vs)) → ns.length = vs.length → ω a = tk o (τ p) → Reps K H ω τ p 0 xs vs → Rep K H ω τ p (.ins o x ns xs) (.ref a)
  | xc {p a x ed wv w} : H a = some (xco a (.ref (He.ga K x)) ed) → ω a = none → H ed = some (.xd [("what", wv)]) → ω ed = none → Rep K H ω τ (p ++ [0]) w wv → Rep K H ω τ p (.xc x w) (.ref a)
inductive Reps (K : PySem.W.Frag) (H : Hp) (ω : Om) (τ : List Nat → Own) : List Nat → Nat → List D → List V → Prop
  | nil {p k} : Reps K H ω τ p k [] []
  | cons {p k d v ds vs} : Rep K H ω τ (p ++ [k]) d v → Reps K H ω τ p (k + 1) ds vs → Reps K H ω τ p k (d :: ds) (v :: vs)
end

def TT0 (H H' : Hp) : Prop := ∀ a vs, H a = some (.tup vs) → H' a = some (.tup vs)
structure Tr (H : Hp) (ω : Om) (H' : Hp) (ω' : Om) : Prop where
  tup : TT0 H H'
  keep : ∀ a u, H a = some u → (ω a = none ∨ ω a = some .oth) → H' a = some u ∧ ω' a = ω a
  dom : ∀ a, H a ≠ none → H' a ≠ none
theorem Tr.unborn {H H1 : Hp} {ω ω1 : Om} (t : Tr H ω H1 ω1) {a : Addr} (h : H1 a = none) : H a = none := Classical.byContradiction fun z => t.dom a z h
theorem Tr.refl (H : Hp) (ω : Om) : Tr H ω H ω := ⟨fun _ _ h => h, fun _ _ h _ => ⟨h, rfl⟩, fun _ h => h⟩

mutual
theorem rep_len {K : PySem.W.Frag} {H : Hp} {ω : Om} {τ : List Nat → Own} : ∀ {p k ds vs}, Reps K H ω τ p k ds vs → ds.length = vs.length
  | _, _, _, _, .nil => rfl
  | _, _, _, _, .cons _ r => congrArg (· + 1) (rep_len r)
end

structure Mv (H : Hp) (ω : Om) (τ : List Nat → Own) (H' : Hp) (ω' : Om) (τ' : List Nat → Own) (g : List Nat → List Nat) : Prop where
  hom : ∀ p k, g (p ++ [k]) = g p ++ [k]
  tup : TT0 H H'
  own : ∀ a u q, H a = some u → ω a = some (τ q) → H' a = some u ∧ ω' a = some (τ' (g q))
  frz : ∀ a u, H a = some u → ω a = none → H' a = some u ∧ ω' a = none
section
variable {K : PySem.W.Frag} {H H' : Hp} {ω ω' : Om} {τ τ' : List Nat → Own} {g : List Nat → List Nat}
theorem Mv.lstAt (M : Mv H ω τ H' ω' τ' g) {a : Addr} {u : HO} {o : Bool} {p : List Nat} (h : H a = some u) (e : ω a = tk o (τ p)) : H' a = some u ∧ ω' a = tk o (τ' (g p)) := by
  cases o with
  | true => exact M.own a u p h e
  | false => exact M.frz a u h e
theorem Mv.dzAt (M : Mv H ω τ H' ω' τ' g) {a : Addr} {kvs : List (ZD.ZK × V)} {o : Bool} {p : List Nat} (h : ZD.HZ H a kvs) (e : ω a = tk o (τ p)) : ZD.HZ H' a kvs ∧ ω' a = tk o (τ' (g p)) := by
  obtain ⟨bs, h1, h2⟩ := id h
  exact ⟨h.to (fun u q => (M.lstAt q e).1) M.tup, (M.lstAt h1 e).2⟩
mutual
theorem Rep.mv (M : Mv H ω τ H' ω' τ' g) : ∀ {p d v}, Rep K H ω τ p d v → Rep K H' ω' τ' (g p) d v
  | _, _, _, .non => .non
  | _, _, _, .bl => .bl
  | _, _, _, .int => .int
  | _, _, _, .str => .str
  | _, _, _, .fn => .fn
  | _, _, _, .ty => .ty
  | _, _, _, .tup h r => .tup (h.elim (fun h => .inl (M.tup _ _ h)) .inr) (Reps.mv M r)
  | _, _, _, .lst h e r => let z := M.lstAt h e; .lst z.1 z.2 (Reps.mv M r)
  | _, _, _, .ro h r => .ro (by
      rcases h with ⟨h, e⟩ | h
      · refine .inl ⟨?_, ?_⟩
        · rcases h with h | ⟨o, h⟩
          · exact .inl (M.frz _ _ h e).1
          · exact .inr ⟨o, (M.frz _ _ h e).1⟩
        · rcases h with h | ⟨o, h⟩
          · exact (M.frz _ _ h e).2
          · exact (M.frz _ _ h e).2
      · exact .inr h) (Reps.mv M r)
  | _, _, _, .dct h l e r => let z := M.lstAt h e; .dct z.1 l z.2 (Reps.mv M r)
  | _, _, _, .dz h l e r => let z := M.dzAt h e; .dz z.1 l z.2 (Reps.mv M r)
  | _, _, _, .ins h l e r => let z := M.lstAt h e; .ins z.1 l z.2 (Reps.mv M r)
  | _, _, _, .xc (p := p) h e h2 e2 r => let z := M.frz _ _ h e; let y := M.frz _ _ h2 e2; .xc z.1 z.2 y.1 y.2 (by
      have z := Rep.mv M r
      rw [M.hom] at z
      exact z)
theorem Reps.mv (M : Mv H ω τ H' ω' τ' g) : ∀ {p k ds vs}, Reps K H ω τ p k ds vs → Reps K H' ω' τ' (g p) k ds vs
  | _, _, _, _, .nil => .nil
  | _, _, _, _, .cons (p := p) (k := k) h r => .cons (by
      have z := Rep.mv M h
      rw [M.hom] at z
      exact z) (Reps.mv M r)
end
structure Fz (H : Hp) (ω : Om) (τ : List Nat → Own) (H' : Hp) (ω' : Om) : Prop where
  tup : TT0 H H'
  own : ∀ a u q, H a = some u → ω a = some (τ q) → H' a = some u ∧ ω' a = none
  frz : ∀ a u, H a = some u → ω a = none → H' a = some u ∧ ω' a = none
theorem Fz.lstAt (M : Fz H ω τ H' ω') {a : Addr} {u : HO} {o : Bool} {p : List Nat} (h : H a = some u) (e : ω a = tk o (τ p)) : H' a = some u ∧ ω' a = none := by
  cases o with
  | true => exact M.own a u p h e
  | false => exact M.frz a u h e
theorem Fz.dzAt (M : Fz H ω τ H' ω') {a : Addr} {kvs : List (ZD.ZK × V)} {o : Bool} {p : List Nat} (h : ZD.HZ H a kvs) (e : ω a = tk o (τ p)) : ZD.HZ H' a kvs ∧ ω' a = none := by
  obtain ⟨bs, h1, h2⟩ := id h
  exact ⟨h.to (fun u q => (M.lstAt q e).1) M.tup, (M.lstAt h1 e).2⟩
mutual
theorem Rep.fz (M : Fz H ω τ H' ω') : ∀ {p q d v}, Rep K H ω τ p d v → Rep K H' ω' τ' q (frz d) v
  | _, _, _, _, .non => .non
  | _, _, _, _, .bl => .bl
  | _, _, _, _, .int => .int
  | _, _, _, _, .str => .str
  | _, _, _, _, .fn => .fn
  | _, _, _, _, .ty => .ty
  | _, _, _, _, .tup h r => .tup (h.elim (fun h => .inl (M.tup _ _ h)) .inr) (Reps.fz M r)
  | _, _, _, _, .lst h e r => let z := M.lstAt h e; .lst (o := false) z.1 z.2 (Reps.fz M r)
  | _, _, _, _, .ro h r => .ro (by
      rcases h with ⟨h, e⟩ | h
      · refine .inl ⟨?_, ?_⟩
        · rcases h with h | ⟨o, h⟩
          · exact .inl (M.frz _ _ h e).1
          · exact .inr ⟨o, (M.frz _ _ h e).1⟩
        · rcases h with h | ⟨o, h⟩
          · exact (M.frz _ _ h e).2
          · exact (M.frz _ _ h e).2
      · exact .inr h) (Reps.fz M r)
  | _, _, _, _, .dct h l e r => let z := M.lstAt h e; .dct (o := false) z.1 l z.2 (Reps.fz M r)
  | _, _, _, _, .dz h l e r => let z := M.dzAt h e; .dz (o := false) z.1 l z.2 (Reps.fz M r)
  | _, _, _, _, .ins h l e r => let z := M.lstAt h e; .ins (o := false) z.1 l z.2 (Reps.fz M r)
  | _, _, _, _, .xc h e h2 e2 r => let z := M.frz _ _ h e; let y := M.frz _ _ h2 e2; .xc z.1 z.2 y.1 y.2 (Rep.fz M r)
theorem Reps.fz (M : Fz H ω τ H' ω') : ∀ {p q k j ds vs}, Reps K H ω τ p k ds vs → Reps K H' ω' τ' q j (frzL ds) vs
  | _, _, _, _, _, _, .nil => .nil
  | _, _, _, _, _, _, .cons h r => .cons (Rep.fz M h) (Reps.fz M r)
end
mutual
theorem Rep.any (ht : TT0 H H') (hf : ∀ a u, H a = some u → ω a = none → H' a = some u ∧ ω' a = none) : ∀ {p q d v}, frzd d = true → Rep K H ω τ p d v → Rep K H' ω' τ' q d v
  | _, _, _, _, _, .non => .non
  | _, _, _, _, _, .bl => .bl
  | _, _, _, _, _, .int => .int
  | _, _, _, _, _, .str => .str
  | _, _, _, _, _, .fn => .fn
  | _, _, _, _, _, .ty => .ty
  | _, _, _, _, z, .tup h r => .tup (h.elim (fun h => .inl (ht _ _ h)) .inr) (Reps.any ht hf (by simpa [frzd] using z) r)
  | _, _, .lst o _, _, z, .lst h e r => by
    simp only [frzd, Bool.and_eq_true, Bool.not_eq_true'] at z
    obtain ⟨rfl, z⟩ := z
    have y := hf _ _ h e
    exact .lst (o := false) y.1 y.2 (Reps.any ht hf z r)
  | _, _, _, _, z, .ro h r => .ro (by
      rcases h with ⟨h, e⟩ | h
      · refine .inl ⟨?_, ?_⟩
        · rcases h with h | ⟨o, h⟩
          · exact .inl (hf _ _ h e).1
          · exact .inr ⟨o, (hf _ _ h e).1⟩
        · rcases h with h | ⟨o, h⟩
          · exact (hf _ _ h e).2
          · exact (hf _ _ h e).2
      · exact .inr h) (Reps.any ht hf (by simpa [frzd] using z) r)
  | _, _, .dct o _ _, _, z, .dct h l e r => by
    simp only [frzd, Bool.and_eq_true, Bool.not_eq_true'] at z
    obtain ⟨rfl, z⟩ := z
    have y := hf _ _ h e
    exact .dct (o := false) y.1 l y.2 (Reps.any ht hf z r)
  | _, _, .dz o _ _, _, z, .dz h l e r => by
    simp only [frzd, Bool.and_eq_true, Bool.not_eq_true'] at z
    obtain ⟨rfl, z⟩ := z
    obtain ⟨bs, h1, h2⟩ := id h
    exact .dz (o := false) (h.to (fun u q => (hf _ _ q e).1) ht) l (hf _ _ h1 e).2 (Reps.any ht hf z r)
  | _, _, .ins o _ _ _, _, z, .ins h l e r => by
    simp only [frzd, Bool.and_eq_true, Bool.not_eq_true'] at z
    obtain ⟨rfl, z⟩ := z
    have y := hf _ _ h e
    exact .ins (o := false) y.1 l y.2 (Reps.any ht hf z r)
  | _, _, _, _, z, .xc h e h2 e2 r => let y := hf _ _ h e; let x := hf _ _ h2 e2; .xc y.1 y.2 x.1 x.2 (Rep.any ht hf (by simpa [frzd] using z) r)
theorem Reps.any (ht : TT0 H H') (hf : ∀ a u, H a = some u → ω a = none → H' a = some u ∧ ω' a = none) : ∀ {p q k j ds vs}, frzdL ds = true → Reps K H ω τ p k ds vs → Reps K H' ω' τ' q j ds vs
  | _, _, _, _, _, _, _, .nil => .nil
  | _, _, _, _, _, _, z, .cons h r => by
    simp only [frzdL, Bool.and_eq_true] at z
    exact .cons (Rep.any ht hf z.1 h) (Reps.any ht hf z.2 r)
end
mutual
theorem Rep.flat (ht : TT0 H H') : ∀ {p q d v}, flat d = true → Rep K H ω τ p d v → Rep K H' ω' τ' q d v
  | _, _, _, _, _, .non => .non
  | _, _, _, _, _, .bl => .bl
  | _, _, _, _, _, .int => .int
  | _, _, _, _, _, .str => .str
  | _, _, _, _, _, .fn => .fn
  | _, _, _, _, _, .ty => .ty
  | _, _, _, _, z, .tup h r => .tup (h.elim (fun h => .inl (ht _ _ h)) .inr) (Reps.flat ht (by simpa [SV.flat] using z) r)
  | _, _, _, _, z, .lst _ _ _ => by simp [SV.flat] at z
  | _, _, _, _, z, .ro _ _ => by simp [SV.flat] at z
  | _, _, _, _, z, .dct _ _ _ _ => by simp [SV.flat] at z
  | _, _, _, _, z, .dz _ _ _ _ => by simp [SV.flat] at z
  | _, _, _, _, z, .ins _ _ _ _ => by simp [SV.flat] at z
  | _, _, _, _, z, .xc _ _ _ _ _ => by simp [SV.flat] at z
theorem Reps.flat (ht : TT0 H H') : ∀ {p q k j ds vs}, flatL ds = true → Reps K H ω τ p k ds vs → Reps K H' ω' τ' q j ds vs
  | _, _, _, _, _, _, _, .nil => .nil
  | _, _, _, _, _, _, z, .cons h r => by
    simp only [flatL, Bool.and_eq_true] at z
    exact .cons (Rep.flat ht z.1 h) (Reps.flat ht z.2 r)
end
end

abbrev FzA (d : D) : Prop := frzd (frz d) = true ∧ (flat d = true → frzd d = true) ∧ (frzd d = true → frz d = d)
abbrev FzB (ds : List D) : Prop := frzdL (frzL ds) = true ∧ (flatL ds = true → frzdL ds = true) ∧ (frzdL ds = true → frzL ds = ds)
theorem fz_nil : FzB [] := ⟨rfl, fun _ => rfl, fun _ => rfl⟩
theorem fz_cons {d : D} {r : List D} (h : FzA d) (hr : FzB r) : FzB (d :: r) := by
  refine ⟨?_, fun h' => ?_, fun h' => ?_⟩
  · show (frzd (frz d) && frzdL (frzL r)) = true
    rw [h.1, hr.1]
    rfl
  · have h' : (flat d && flatL r) = true := h'
    rw [Bool.and_eq_true] at h'
    show (frzd d && frzdL r) = true
    rw [h.2.1 h'.1, hr.2.1 h'.2]
    rfl
  · have h' : (frzd d && frzdL r) = true := h'
    rw [Bool.and_eq_true] at h'
    show frz d :: frzL r = d :: r
    rw [h.2.2 h'.1, hr.2.2 h'.2]
theorem fzA : ∀ d, FzA d := by
    intro d
    induction d using D.rec (motive_2 := fun ds => FzB ds) with
    | non | bl | int | str | fn | ty => exact ⟨rfl, fun _ => rfl, fun _ => rfl⟩
    | tup xs ih => exact ⟨ih.1, ih.2.1, fun h => congrArg D.tup (ih.2.2 h)⟩
    | lst o xs ih =>
      refine ⟨ih.1, (fun h => nomatch h), fun h => ?_⟩
      have h' : (!o && frzdL xs) = true := h
      simp only [Bool.and_eq_true, Bool.not_eq_true'] at h'
      obtain ⟨rfl, h'⟩ := h'
      exact congrArg (D.lst false) (ih.2.2 h')
    | ro xs ih => exact ⟨ih.1, (fun h => nomatch h), fun h => congrArg D.ro (ih.2.2 h)⟩
    | dct o ks xs ih =>
      refine ⟨ih.1, (fun h => nomatch h), fun h => ?_⟩
      have h' : (!o && frzdL xs) = true := h
      simp only [Bool.and_eq_true, Bool.not_eq_true'] at h'
      obtain ⟨rfl, h'⟩ := h'
      exact congrArg (D.dct false ks) (ih.2.2 h')
    | dz o ks xs ih =>
      refine ⟨ih.1, (fun h => nomatch h), fun h => ?_⟩
      have h' : (!o && frzdL xs) = true := h
      simp only [Bool.and_eq_true, Bool.not_eq_true'] at h'
      obtain ⟨rfl, h'⟩ := h'
      exact congrArg (D.dz false ks) (ih.2.2 h')
    | ins o x ns xs ih =>
      refine ⟨ih.1, (fun h => nomatch h), fun h => ?_⟩
      have h' : (!o && frzdL xs) = true := h
      simp only [Bool.and_eq_true, Bool.not_eq_true'] at h'
      obtain ⟨rfl, h'⟩ := h'
      exact congrArg (D.ins false x ns) (ih.2.2 h')
    | xc x w ih => exact ⟨ih.1, (fun h => nomatch h), fun h => congrArg (D.xc x) (ih.2.2 h)⟩
    | nil => exact ⟨rfl, fun _ => rfl, fun _ => rfl⟩
    | cons d r ih1 ih2 => exact fz_cons ih1 ih2
theorem fzB : ∀ ds, FzB ds
  | [] => fz_nil
  | d :: r => fz_cons (fzA d) (fzB r)
theorem frzd_frz (d : D) : frzd (frz d) = true := (fzA d).1
theorem frz_of {d : D} (h : frzd d = true) : frz d = d := (fzA d).2.2 h
theorem frzL_of {d : List D} (h : frzdL d = true) : frzL d = d := (fzB d).2.2 h
end SV

namespace SV
open PySem PySem.Spec PyProof.Rows L2

def WE (X : Cx) (e : Expr) : TE := fun σ H Q => ∃ t, PE X e t ∧ t σ H Q
def WT (X : Cx) (e : Expr) : TT := fun σ H Q => ∃ t, PT X e t ∧ t σ H Q
def WS (X : Cx) (s : Stmt) : TS := fun D σ H => ∃ t, PS X s t ∧ t D σ H
def WSs (X : Cx) (s : List Stmt) : TS := fun D σ H => ∃ t, PSs X s t ∧ t D σ H
theorem pe_w {X : Cx} {e : Expr} : PE X e (WE X e) := ⟨fun pins s σ H Q I ⟨t, hp, ht⟩ => hp.run pins s σ H Q I ht⟩
theorem pt_w {X : Cx} {e : Expr} : PT X e (WT X e) := ⟨fun pins s σ H Q I ⟨t, hp, ht⟩ => hp.run pins s σ H Q I ht⟩
theorem ps_w {X : Cx} {e : Stmt} : PS X e (WS X e) := ⟨fun pins s σ H Q I ⟨t, hp, ht⟩ => hp.run pins s σ H Q I ht⟩
theorem pss_w {X : Cx} {e : List Stmt} : PSs X e (WSs X e) := ⟨fun pins s σ H Q I ⟨t, hp, ht⟩ => hp.run pins s σ H Q I ht⟩
def WO (X : Cx) (f : Value → Value → Sem Value) : R2 := fun x y H Q => ∃ r, OpR X f r ∧ r x y H Q
theorem op_w {X : Cx} {f : Value → Value → Sem Value} : OpR X f (WO X f) := fun pins s σ H Q x y v u I rx ry ⟨r, hr, h⟩ => hr pins s σ H Q x y v u I rx ry h

abbrev S := List (Option D)
inductive Rs (α : Type) where
  | ok (a : α) (st : S)
  | exc (x : Str) (w : D) (st : S)
  | stuck
abbrev M (α : Type) := S → Rs α
def Rs.bind {α β : Type} (r : Rs α) (f : α → S → Rs β) : Rs β := match r with
  | .ok a st => f a st
  | .exc x w st => .exc x w st
  | .stuck => .stuck
@[simp] theorem bind_ok {α β : Type} (a : α) (st : S) (f : α → S → Rs β) : (Rs.ok a st).bind f = f a st := rfl
@[simp] theorem bind_exc {α β : Type} (x : Str) (w : D) (st : S) (f : α → S → Rs β) : (Rs.exc x w st).bind f = .exc x w st := rfl
@[simp] theorem bind_stuck {α β : Type} (f : α → S → Rs β) : (Rs.stuck : Rs α).bind f = .stuck := rfl

structure Sim (K : PySem.W.Frag) (R : Nat → Bool) (σ0 : L2.St) (st : S) (σ : L2.St) (H : Hp) (ω : Om) : Prop where
  len : st.length = σ.length
  at_ : ∀ i d, st[i]? = some (some d) → ∃ v, σ[i]? = some (some v) ∧ Rep K H ω (.sl i) [] d v
  ref_ : ∀ i, R i = true → σ[i]? = σ0[i]?

structure Ct where
  X : Cx
  W : WX
  R : Nat → Bool
  σ0 : L2.St
abbrev Ct.K (C : Ct) := C.X.K
abbrev Ct.Sim (C : Ct) (st : S) (σ : L2.St) (H : Hp) (ω : Om) : Prop := SV.Sim C.X.K C.R C.σ0 st σ H ω

def Ext (H H' : Hp) : Prop := ∀ a u, H a = some u → H' a = some u
theorem Ext.refl (H : Hp) : Ext H H := fun _ _ h => h
theorem Ext.trans {H H1 H2 : Hp} (a : Ext H H1) (b : Ext H1 H2) : Ext H H2 := fun x u h => b x u (a x u h)
theorem Ext.new {H : Hp} {p : Addr} {o : HO} (h : H p = none) : Ext H (upd H p o) := fun a u e => by
  rw [upd_ne (ne_of_none e h)]
  exact e
theorem Ext.dom {H H' : Hp} (e : Ext H H') : ∀ a, H a ≠ none → H' a ≠ none := fun a h => by
  cases q : H a with
  | none => exact absurd q h
  | some u =>
    rw [e a u q]
    exact fun z => nomatch z
theorem Ext.tr {H H' : Hp} {ω : Om} (e : Ext H H') : Tr H ω H' ω := ⟨fun a vs h => e a _ h, fun a u h _ => ⟨e a u h, rfl⟩, e.dom⟩

def hide (ω : Om) : Om := fun a => match ω a with
  | some (.res _) => some .oth
  | x => x
theorem hide_none {ω : Om} {a : Addr} (h : ω a = none) : hide ω a = none := by unfold hide; rw [h]
theorem hide_oth {ω : Om} {a : Addr} (h : ω a = some .oth) : hide ω a = some .oth := by unfold hide; rw [h]
theorem hide_sl {ω : Om} {a : Addr} {i : Nat} {q : List Nat} (h : ω a = some (.sl i q)) : hide ω a = some (.sl i q) := by unfold hide; rw [h]
theorem hide_res {ω : Om} {a : Addr} {q : List Nat} (h : ω a = some (.res q)) : hide ω a = some .oth := by unfold hide; rw [h]
section
variable {K : PySem.W.Frag} {R : Nat → Bool} {σ0 σ : L2.St} {st : S} {H H1 H2 : Hp} {ω ω1 ω2 : Om}
theorem Tr.trans (a : Tr H ω H1 ω1) (b : Tr H1 ω1 H2 ω2) : Tr H ω H2 ω2 := ⟨fun x vs h => b.tup x vs (a.tup x vs h), fun x u h e => by
    obtain ⟨h1, e1⟩ := a.keep x u h e
    obtain ⟨h2, e2⟩ := b.keep x u h1 (by rw [e1]; exact e)
    exact ⟨h2, e2.trans e1⟩, fun x h => b.dom x (a.dom x h)⟩
theorem Tr.hid (a : Tr H ω H1 ω1) : Tr H ω H1 (hide ω1) := ⟨a.tup, fun x u h e => by
    obtain ⟨h1, e1⟩ := a.keep x u h e
    refine ⟨h1, ?_⟩
    rcases e with e | e
    · rw [hide_none (e1.trans e), e]
    · rw [hide_oth (e1.trans e), e], a.dom⟩
theorem Sim.mv (s : Sim K R σ0 st σ H ω) (ht : TT0 H H1) (hs : ∀ a u i q, H a = some u → ω a = some (.sl i q) → H1 a = some u ∧ ω1 a = some (.sl i q)) (hn : ∀ a u, H a = some u → ω a = none → H1 a = some u ∧ ω1 a = none) : Sim K R σ0 st σ H1 ω1 :=
  ⟨s.len, fun i d h => by
    obtain ⟨v, e, r⟩ := s.at_ i d h
    exact ⟨v, e, r.mv (g := id) ⟨fun _ _ => rfl, ht, fun a u q h e => hs a u i q h e, hn⟩⟩, s.ref_⟩
theorem Sim.hid (s : Sim K R σ0 st σ H ω) : Sim K R σ0 st σ H (hide ω) := s.mv (fun _ _ h => h) (fun a u i q h e => ⟨h, hide_sl e⟩) fun a u h e => ⟨h, hide_none e⟩
theorem Sim.ext (s : Sim K R σ0 st σ H ω) (e : Ext H H1) : Sim K R σ0 st σ H1 ω := s.mv (fun a vs h => e a _ h) (fun a u i q h z => ⟨e a u h, z⟩) fun a u h z => ⟨e a u h, z⟩
end
inductive Opd where
  | v (d : D)
  | s (i : Nat)
def getO (st : S) : Opd → Option D
  | .v d => some d
  | .s i => (st[i]?).join
inductive OReps (K : PySem.W.Frag) (H : Hp) (ω : Om) (σ : L2.St) : Nat → List Opd → List V → Prop
  | nil {n} : OReps K H ω σ n [] []
  | v {n d v os vs} : Rep K H ω .res [n] d v → OReps K H ω σ (n + 1) os vs → OReps K H ω σ n (.v d :: os) (v :: vs)
  | s {n i v os vs} : σ[i]? = some (some v) → OReps K H ω σ (n + 1) os vs → OReps K H ω σ n (.s i :: os) (v :: vs)

section
variable (C : Ct)
def PX (H : Hp) (ω : Om) (x : Str) (w : D) (st' : S) : Prop := ∀ ed wv σ' H' ω', H ed = none → Tr H ω H' ω' → C.Sim st' σ' H' ω' → ω' ed = none → H' ed = some (.xd [("what", wv)]) → Rep C.X.K H' ω' .res [] w wv → C.W (.ref (He.ga C.X.K x)) (some ed) σ' H'
def PostE (σ : L2.St) (H : Hp) (ω : Om) (Q : VK) : Rs D → Prop
  | .ok d st' => ∀ v H' ω', Tr H ω H' ω' → C.Sim st' σ H' ω' → Rep C.X.K H' ω' .res [] d v → Q v H'
  | .exc x w st' => PX C H ω x w st'
  | .stuck => False
def PostO (σ : L2.St) (H : Hp) (ω : Om) (Q : VK) : Rs Opd → Prop
  | .ok (.v d) st' => ∀ v H' ω', Tr H ω H' ω' → C.Sim st' σ H' ω' → Rep C.X.K H' ω' .res [] d v → Q v H'
  | .ok (.s i) st' => ∀ v H' ω', Tr H ω H' ω' → C.Sim st' σ H' ω' → σ[i]? = some (some v) → Q v H'
  | .exc x w st' => PX C H ω x w st'
  | .stuck => False
def PostA (σ : L2.St) (H : Hp) (ω : Om) (n : Nat) (Q : List V → Hp → Prop) : Rs (List Opd) → Prop
  | .ok os st' => ∀ vs H' ω', Tr H ω H' ω' → C.Sim st' σ H' ω' → OReps C.X.K H' ω' σ n os vs → Q vs H'
  | .exc x w st' => PX C H ω x w st'
  | .stuck => False
def PostT (σ : L2.St) (H : Hp) (ω : Om) (Q : Bool → Hp → Prop) : Rs Bool → Prop
  | .ok b st' => ∀ H' ω', Tr H ω H' ω' → C.Sim st' σ H' ω' → Q b H'
  | .exc x w st' => PX C H ω x w st'
  | .stuck => False
inductive Fl where
  | nx | rt (d : D) | bk | ct
def PostS (H : Hp) (ω : Om) (N : Ends) : Rs Fl → Prop
  | .ok .nx st' => ∀ σ' H' ω', Tr H ω H' ω' → C.Sim st' σ' H' ω' → N.nx σ' H'
  | .ok (.rt d) st' => ∀ v σ' H' ω', Tr H ω H' ω' → C.Sim st' σ' H' ω' → Rep C.X.K H' ω' .res [] d v → N.rt v H'
  | .ok .bk st' => ∀ σ' H' ω', Tr H ω H' ω' → C.Sim st' σ' H' ω' → N.bk σ' H'
  | .ok .ct st' => ∀ σ' H' ω', Tr H ω H' ω' → C.Sim st' σ' H' ω' → N.ct σ' H'
  | .exc x w st' => PX C H ω x w st'
  | .stuck => False
def WL (X : Cx) : List Expr → TA
  | [] => fun _ H Q => Q [] H
  | e :: es => fun σ H Q => WE X e σ H fun v H1 => WL X es σ H1 fun vs H2 => Q (v :: vs) H2
def SE (e : Expr) (m : M D) : Prop := ∀ st σ H ω Q, C.Sim st σ H ω → PostE C σ H ω Q (m st) → WE C.X e σ H Q
def SO (e : Expr) (m : M Opd) : Prop := ∀ st σ H ω Q, C.Sim st σ H ω → PostO C σ H ω Q (m st) → WE C.X e σ H Q
def SA (es : List Expr) (m : M (List Opd)) : Prop := ∀ n st σ H ω Q, C.Sim st σ H ω → PostA C σ H ω n Q (m st) → WL C.X es σ H Q
def ST (e : Expr) (m : M Bool) : Prop := ∀ st σ H ω Q, C.Sim st σ H ω → PostT C σ H ω Q (m st) → WT C.X e σ H Q
def SS (s : Stmt) (m : M Fl) : Prop := ∀ st σ H ω N, C.Sim st σ H ω → PostS C H ω N (m st) → WS C.X s N σ H
def SSs (s : List Stmt) (m : M Fl) : Prop := ∀ st σ H ω N, C.Sim st σ H ω → PostS C H ω N (m st) → WSs C.X s N σ H
end

section
variable {C : Ct} {e : Expr} {es : List Expr} {H H1 H2 : Hp} {ω ω1 ω2 : Om} {σ : L2.St} {x : Str} {w : D} {st : S}
theorem PX.pre (t : Tr H ω H1 ω1) (p : PX C H ω x w st) : PX C H1 ω1 x w st := fun ed wv σ' H' ω' n t' => p ed wv σ' H' ω' (t.unborn n) (t.trans t')

def oV (m : M D) : M Opd := fun st => (m st).bind fun d s => .ok (.v d) s
def oS (i : Nat) : M Opd := fun st => match st[i]? with
  | some (some _) => .ok (.s i) st
  | _ => .stuck
theorem so_v {m : M D} (h : SE C e m) : SO C e (oV m) := fun st σ H ω Q s p => h st σ H ω Q s (by
  unfold oV at p
  cases q : m st with
  | ok d s1 => rw [q] at p; exact p
  | exc x w s1 => rw [q] at p; exact p
  | stuck => rw [q] at p; exact p)
theorem so_s (i : Nat) {x : Str} {pos : Pos} (hN : C.X.N[i]? = some x := by rfl) (hv : Vis C.X.env.scope x := by first | exact Or.inl rfl | exact Or.inr (Or.inl rfl) | exact Or.inr (Or.inr rfl)) (hd : (x == ("__debug__" : Str)) = false := by decide)
    (hcd : (x == ("__classdict__" : Str)) = false := by decide) : SO C (.Name x pos) (oS i) := fun st σ H ω Q s p => by
  unfold oS at p
  cases q : st[i]? with
  | none => rw [q] at p; exact p.elim
  | some o =>
    cases o with
    | none => rw [q] at p; exact p.elim
    | some d =>
      rw [q] at p
      obtain ⟨v, e, r⟩ := s.at_ i d q
      exact ⟨_, pe_var hN hv hd hcd, v, e, p v H ω (Tr.refl _ _) s e⟩
def joinO (H1 : Hp) (ω1 : Om) (n : Nat) (ω2 : Om) : Om := fun a => match H1 a, ω1 a with
  | some _, some (.res q) => some (.res (n :: q))
  | _, _ => ω2 a
theorem joinO_res {a : Addr} {u : HO} {q : List Nat} {n : Nat} (h : H1 a = some u) (e : ω1 a = some (.res q)) : joinO H1 ω1 n ω2 a = some (.res (n :: q)) := by unfold joinO; rw [h, e]
theorem joinO_ne {a : Addr} {n : Nat} (h : H1 a = none ∨ ∀ q, ω1 a ≠ some (.res q)) : joinO H1 ω1 n ω2 a = ω2 a := by
  unfold joinO
  rcases h with h | h
  · rw [h]
  · cases q : H1 a with
    | none => rfl
    | some u =>
      cases z : ω1 a with
      | none => rfl
      | some y =>
        cases y with
        | res q => exact absurd z (h q)
        | sl i p => rfl
        | oth => rfl
theorem join_of {a : Addr} {n : Nat} (t : Tr H1 (hide ω1) H2 ω2) (h : ω2 a ≠ some .oth) : joinO H1 ω1 n ω2 a = ω2 a := by
  refine joinO_ne ?_
  cases q : H1 a with
  | none => exact .inl rfl
  | some u =>
    refine .inr fun p z => h ?_
    exact ((t.keep a u q (.inr (hide_res z))).2).trans (hide_res z)
theorem Tr.join {n : Nat} (t1 : Tr H ω H1 ω1) (t2 : Tr H1 (hide ω1) H2 ω2) : Tr H ω H2 (joinO H1 ω1 n ω2) := by
  have t := t1.hid.trans t2
  refine ⟨t.tup, fun a u h e => ?_, t.dom⟩
  obtain ⟨h2, e2⟩ := t.keep a u h e
  refine ⟨h2, ?_⟩
  obtain ⟨h1, e1⟩ := t1.keep a u h e
  rw [joinO_ne (.inr fun q z => ?_)]
  · exact e2
  · rw [e1] at z
    rcases e with e | e
    · rw [e] at z; cases z
    · rw [e] at z; cases z
theorem Sim.join {n : Nat} {K : PySem.W.Frag} {R : Nat → Bool} {σ0 : L2.St} (t2 : Tr H1 (hide ω1) H2 ω2) (s : Sim K R σ0 st σ H2 ω2) : Sim K R σ0 st σ H2 (joinO H1 ω1 n ω2) :=
  s.mv (fun _ _ h => h) (fun a u i q h e => ⟨h, (join_of t2 (by rw [e]; exact fun z => nomatch z)).trans e⟩) fun a u h e => ⟨h, (join_of t2 (by rw [e]; exact fun z => nomatch z)).trans e⟩
theorem Rep.joinL {n : Nat} {K : PySem.W.Frag} {d : D} {v : V} {p : List Nat} (t2 : Tr H1 (hide ω1) H2 ω2) (r : Rep K H1 ω1 .res p d v) : Rep K H2 (joinO H1 ω1 n ω2) .res (n :: p) d v :=
  r.mv (g := fun q => n :: q) ⟨fun _ _ => rfl, t2.tup, fun a u q h e => ⟨(t2.keep a u h (.inr (hide_res e))).1, joinO_res h e⟩, fun a u h e => by
    obtain ⟨h2, e2⟩ := t2.keep a u h (.inl (hide_none e))
    exact ⟨h2, (joinO_ne (.inr fun q z => by rw [e] at z; cases z)).trans (e2.trans (hide_none e))⟩⟩
theorem OReps.joinR {n m : Nat} {K : PySem.W.Frag} {os : List Opd} {vs : List V} (t2 : Tr H1 (hide ω1) H2 ω2) (r : OReps K H2 ω2 σ m os vs) : OReps K H2 (joinO H1 ω1 n ω2) σ m os vs := by
  induction r with
  | nil => exact .nil
  | v h _ ih =>
    refine .v (h.mv (g := id) ⟨fun _ _ => rfl, fun _ _ h => h, fun a u q h e => ⟨h, (join_of t2 (by rw [e]; exact fun z => nomatch z)).trans e⟩, fun a u h e => ⟨h, (join_of t2 (by rw [e]; exact fun z => nomatch z)).trans e⟩⟩) ih
  | s h _ ih => exact .s h ih
def aNil : M (List Opd) := fun st => .ok [] st
def aCons (m : M Opd) (ms : M (List Opd)) : M (List Opd) := fun st => (m st).bind fun o s1 => (ms s1).bind fun os s2 => .ok (o :: os) s2
theorem sa_nil : SA C [] aNil := fun n st σ H ω Q s p => p [] H ω (Tr.refl _ _) s .nil
theorem sa_cons {m : M Opd} {ms : M (List Opd)} (h : SO C e m) (hs : SA C es ms) : SA C (e :: es) (aCons m ms) := fun n st σ H ω Q s p => by
  show WE C.X e σ H _
  refine h st σ H ω _ s ?_
  unfold aCons at p
  cases q : m st with
  | stuck => rw [q] at p; exact p
  | exc x w s1 => rw [q] at p; exact p
  | ok o s1 =>
    rw [q] at p
    simp only [bind_ok] at p
    have fin : ∀ (H1 : Hp) (ω1 : Om) (v : V), Tr H ω H1 ω1 → C.Sim s1 σ H1 ω1 → (∀ os s2 vs H2 ω2, ms s1 = .ok os s2 → Tr H1 (hide ω1) H2 ω2 → C.Sim s2 σ H2 ω2 → OReps C.X.K H2 ω2 σ (n + 1) os vs → OReps C.X.K H2 (joinO H1 ω1 n ω2) σ n (o :: os) (v :: vs)) →
        WL C.X es σ H1 fun vs H2 => Q (v :: vs) H2 := fun H1 ω1 v t1 sm1 mk => by
      refine hs (n + 1) s1 σ H1 (hide ω1) _ sm1.hid ?_
      cases q2 : ms s1 with
      | stuck => rw [q2] at p; exact p
      | exc x w s2 => rw [q2] at p; exact PX.pre t1.hid p
      | ok os s2 =>
        rw [q2] at p
        simp only [bind_ok] at p
        intro vs H2 ω2 t2 sm2 r
        exact p (v :: vs) H2 (joinO H1 ω1 n ω2) (t1.join t2) (sm2.join t2) (mk os s2 vs H2 ω2 q2 t2 sm2 r)
    cases o with
    | v d => exact fun v H1 ω1 t1 sm1 r1 => fin H1 ω1 v t1 sm1 fun os s2 vs H2 ω2 _ t2 _ r => .v (r1.joinL t2) (r.joinR t2)
    | s i => exact fun v H1 ω1 t1 sm1 e1 => fin H1 ω1 v t1 sm1 fun os s2 vs H2 ω2 _ t2 _ r => .s e1 (r.joinR t2)
end
end SV

namespace SV
open PySem PySem.Spec PyProof.Rows L2

def scl : D → Option V
  | .non => some .non
  | .bl b => some (.bl b)
  | .int i => some (.int i)
  | .str x => some (.str x)
  | _ => none
theorem scl_rep {K : PySem.W.Frag} {H : Hp} {ω : Om} {τ : List Nat → Own} {p : List Nat} {d : D} {v : V} (h : scl d = some v) : Rep K H ω τ p d v := by
  cases d <;> simp only [scl, Option.some.injEq, reduceCtorEq] at h
  · exact h ▸ .non
  · exact h ▸ .bl
  · exact h ▸ .int
  · exact h ▸ .str
def Vw (K : PySem.W.Frag) (H : Hp) (d : D) (v : V) : Prop := ∃ ω τ p, Rep K H ω τ p d v
def VwL (K : PySem.W.Frag) (H : Hp) : List D → List V → Prop
  | [], vs => vs = []
  | d :: ds, vs => ∃ v r, vs = v :: r ∧ Vw K H d v ∧ VwL K H ds r
theorem Vw.int {K : PySem.W.Frag} {H : Hp} {i : Int} {v : V} (h : Vw K H (.int i) v) : v = .int i := by obtain ⟨_, _, _, h⟩ := h; cases h; rfl
theorem Vw.str {K : PySem.W.Frag} {H : Hp} {i : Str} {v : V} (h : Vw K H (.str i) v) : v = .str i := by obtain ⟨_, _, _, h⟩ := h; cases h; rfl
theorem Vw.bl {K : PySem.W.Frag} {H : Hp} {i : Bool} {v : V} (h : Vw K H (.bl i) v) : v = .bl i := by obtain ⟨_, _, _, h⟩ := h; cases h; rfl
theorem Vw.non {K : PySem.W.Frag} {H : Hp} {v : V} (h : Vw K H .non v) : v = .non := by obtain ⟨_, _, _, h⟩ := h; cases h; rfl
theorem Reps.vw {K : PySem.W.Frag} {H : Hp} {ω : Om} {τ : List Nat → Own} : ∀ {ds : List D} {vs : List V} {p k}, Reps K H ω τ p k ds vs → VwL K H ds vs
  | [], _, _, _, h => by cases h; rfl
  | d :: ds, _, _, _, h => by cases h with | cons a b => exact ⟨_, _, rfl, ⟨_, _, _, a⟩, b.vw⟩
def items : D → Option (List D)
  | .lst _ xs => some xs
  | .tup xs => some xs
  | .ro xs => some xs
  | _ => none
theorem Vw.items {K : PySem.W.Frag} {H : Hp} {d : D} {xs : List D} {v : V} (h : Vw K H d v) (e : items d = some xs) : ∃ a vs, v = .ref a ∧ (SqL K H a vs ∨ SqT K H a vs) ∧ VwL K H xs vs ∧ xs.length = vs.length := by
  obtain ⟨ω, τ, p, h⟩ := h
  cases h with
  | lst h e2 r => cases e; exact ⟨_, _, rfl, .inl (.of h), r.vw, rep_len r⟩
  | tup h r => cases e; exact ⟨_, _, rfl, .inr h.sq, r.vw, rep_len r⟩
  | ro h r => cases e; exact ⟨_, _, rfl, .inl h.sq, r.vw, rep_len r⟩
  | _ => cases e
theorem VwL.get {K : PySem.W.Frag} {H : Hp} : ∀ {ds : List D} {vs : List V} {i : Nat} {d : D}, VwL K H ds vs → ds[i]? = some d → ∃ v, vs[i]? = some v ∧ Vw K H d v
  | [], _, _, _, _, e => by simp at e
  | d :: ds, _, 0, _, h, e => by
    obtain ⟨v, r, rfl, h, _⟩ := h
    simp only [List.getElem?_cons_zero, Option.some.injEq] at e
    exact ⟨v, rfl, e ▸ h⟩
  | d :: ds, _, i + 1, _, h, e => by
    obtain ⟨v, r, rfl, _, h⟩ := h
    simp only [List.getElem?_cons_succ] at e ⊢
    exact VwL.get h e

mutual
def toPy : D → PyData
  | .non => .none
  | .bl b => .bool b
  | .int i => .int i
  | .str x => .str x
  | .tup xs => .tuple (toPyL xs)
  | .lst _ xs => .list (toPyL xs)
  | .ro xs => .list (toPyL xs)
  | .fn _ => .none
  | .ty _ => .none
  | .dct _ _ _ => .none
  | .dz _ _ _ => .none
  | .ins _ _ _ _ => .none
  | .xc _ _ => .none
def toPyL : List D → List PyData
  | [] => []
  | d :: r => toPy d :: toPyL r
end
mutual
def plainD : D → Bool
  | .non => true
  | .bl _ => true
  | .int _ => true
  | .str x => PyData.strOk x
  | .tup xs => plainL xs
  | .lst _ xs => plainL xs
  | .ro xs => plainL xs
  | .fn _ => false
  | .ty _ => false
  | .dct _ _ _ => false
  | .dz _ _ _ => false
  | .ins _ _ _ _ => false
  | .xc _ _ => false
def plainL : List D → Bool
  | [] => true
  | d :: r => plainD d && plainL r
end
mutual
def dep : D → Nat
  | .tup xs => depL xs + 1
  | .lst _ xs => depL xs + 1
  | .ro xs => depL xs + 1
  | _ => 0
def depL : List D → Nat
  | [] => 0
  | d :: r => max (dep d) (depL r)
end
structure PyA (d : D) : Prop where
  lay : plainD d = true → (toPy d).canLay0 = true
  dp : plainD d = true → (toPy d).depth = dep d
structure PyB (ds : List D) : Prop where
  lay : plainL ds = true → PyData.canLayAll0 (toPyL ds) = true
  dp : plainL ds = true → PyData.depthAll (toPyL ds) = depL ds
theorem py_nil : PyB [] := ⟨fun _ => by simp only [toPyL, PyData.canLayAll0], fun _ => by simp only [toPyL, PyData.depthAll, depL]⟩
theorem py_cons {d : D} {r : List D} (h : PyA d) (hr : PyB r) : PyB (d :: r) := by
  refine ⟨fun z => ?_, fun z => ?_⟩
  · simp only [plainL, Bool.and_eq_true] at z
    simp only [toPyL, PyData.canLayAll0, h.lay z.1, hr.lay z.2, Bool.and_self]
  · simp only [plainL, Bool.and_eq_true] at z
    simp only [toPyL, PyData.depthAll, h.dp z.1, hr.dp z.2, depL]
theorem pyA : ∀ d, PyA d := by
  intro d
  induction d using D.rec (motive_2 := fun ds => PyB ds) with
  | non | bl | int => exact ⟨fun _ => by simp only [toPy, PyData.canLay0], fun _ => by simp only [toPy, PyData.depth, dep]⟩
  | str x => exact ⟨fun z => by simp only [plainD] at z; simp only [toPy, PyData.canLay0, z], fun _ => by simp only [toPy, PyData.depth, dep]⟩
  | fn | ty | dct | dz | ins | xc => exact ⟨(fun z => nomatch z), (fun z => nomatch z)⟩
  | tup xs ih => exact ⟨fun z => by simp only [toPy, PyData.canLay0]; exact ih.lay z, fun z => by simp only [toPy, PyData.depth, dep]; rw [ih.dp z]⟩
  | lst o xs ih => exact ⟨fun z => by simp only [toPy, PyData.canLay0]; exact ih.lay z, fun z => by simp only [toPy, PyData.depth, dep]; rw [ih.dp z]⟩
  | ro xs ih => exact ⟨fun z => by simp only [toPy, PyData.canLay0]; exact ih.lay z, fun z => by simp only [toPy, PyData.depth, dep]; rw [ih.dp z]⟩
  | nil => exact py_nil
  | cons d r h hr => exact py_cons h hr
theorem shaped_of {d : D} (h : plainD d = true) (hd : dep d ≤ 64) : SeqAt.shaped (toPy d) = true := by
  show ((toPy d).canLay0 && decide ((toPy d).depth ≤ 64)) = true
  rw [(pyA d).lay h, (pyA d).dp h, decide_eq_true hd]
  rfl
mutual
theorem Rep.dp {K : PySem.W.Frag} {H : Hp} {ω : Om} {τ : List Nat → Own} : ∀ {p d v}, Rep K H ω τ p d v → plainD d = true → Dp K H v (toPy d)
  | _, _, _, .non, _ => .non
  | _, _, _, .bl, _ => .bl _
  | _, _, _, .int, _ => .int _
  | _, _, _, .str, _ => .str _
  | _, _, _, .tup h r, z => .tup h.sq (Reps.dpl r z)
  | _, _, _, .lst h _ r, z => .lst (.of h) (Reps.dpl r z)
  | _, _, _, .ro h r, z => .lst h.sq (Reps.dpl r z)
  | _, _, _, .fn, z => by simp [plainD] at z
  | _, _, _, .ty, z => by simp [plainD] at z
  | _, _, _, .dct _ _ _ _, z => by simp [plainD] at z
  | _, _, _, .dz _ _ _ _, z => by simp [plainD] at z
  | _, _, _, .ins _ _ _ _, z => by simp [plainD] at z
  | _, _, _, .xc _ _ _ _ _, z => by simp [plainD] at z
theorem Reps.dpl {K : PySem.W.Frag} {H : Hp} {ω : Om} {τ : List Nat → Own} : ∀ {p k ds vs}, Reps K H ω τ p k ds vs → plainL ds = true → DpAll K H vs (toPyL ds)
  | _, _, _, _, .nil, _ => .nil
  | _, _, _, _, .cons h r, z => by
    simp only [plainL, Bool.and_eq_true] at z
    exact .cons (Rep.dp h z.1) (Reps.dpl r z.2)
end
def eqOk (x y : D) : Bool := plainD x && plainD y && decide (dep x ≤ 64) && decide (dep y ≤ 64)
def eqD (x y : D) : Bool := PyData.eqv (toPy x) (toPy y)

section
variable {C : Ct} {a b e : Expr} {pos : Pos} {x : Str}
def eC (d : D) : M D := fun st => .ok d st
theorem se_int {i j} : SE C (.Constant (.int i) j pos) (eC (.int i)) := fun st σ H ω Q s p => ⟨_, pe_int, p _ H ω (Tr.refl _ _) s .int⟩
theorem se_bl {i j} : SE C (.Constant (.bool i) j pos) (eC (.bl i)) := fun st σ H ω Q s p => ⟨_, pe_bl, p _ H ω (Tr.refl _ _) s .bl⟩
theorem se_non {j} : SE C (.Constant .none j pos) (eC .non) := fun st σ H ω Q s p => ⟨_, pe_non, p _ H ω (Tr.refl _ _) s .non⟩
theorem se_str {i j} : SE C (.Constant (.str i) j pos) (eC (.str i)) := fun st σ H ω Q s p => ⟨_, pe_str, p _ H ω (Tr.refl _ _) s .str⟩
def eN (i : Nat) : M D := fun st => match st[i]? with
  | some (some d) => if frzd d = true then .ok d st else .stuck
  | _ => .stuck
theorem se_n (i : Nat) {x : Str} {pos : Pos} (hN : C.X.N[i]? = some x := by rfl) (hv : Vis C.X.env.scope x := by first | exact Or.inl rfl | exact Or.inr (Or.inl rfl) | exact Or.inr (Or.inr rfl)) (hd : (x == ("__debug__" : Str)) = false := by decide)
    (hcd : (x == ("__classdict__" : Str)) = false := by decide) : SE C (.Name x pos) (eN i) := fun st σ H ω Q s p => by
  unfold eN at p
  cases q : st[i]? with
  | none => rw [q] at p; exact p.elim
  | some o =>
    cases o with
    | none => rw [q] at p; exact p.elim
    | some d =>
      rw [q] at p
      obtain ⟨v, e, r⟩ := s.at_ i d q
      by_cases hf : frzd d = true
      · simp only [hf, if_true] at p
        exact ⟨_, pe_var hN hv hd hcd, v, e, p v H ω (Tr.refl _ _) s (r.any (fun _ _ h => h) (fun a u h z => ⟨h, z⟩) hf)⟩
      · simp only [hf, if_false] at p
        exact p.elim
def sclL : List D → Option (List V)
  | [] => some []
  | d :: r => match scl d, sclL r with
    | some v, some vs => some (v :: vs)
    | _, _ => none
theorem OReps.get {K : PySem.W.Frag} {R : Nat → Bool} {σ0 σ : L2.St} {st : S} {H : Hp} {ω : Om} {n : Nat} {o : Opd} {os : List Opd} {vs : List V} {d : D} (s : Sim K R σ0 st σ H ω) (r : OReps K H ω σ n (o :: os) vs) (h : getO st o = some d) :
    ∃ v us, vs = v :: us ∧ (match o with | .v _ => Rep K H ω .res [n] d v | .s i => Rep K H ω (.sl i) [] d v) ∧ OReps K H ω σ (n + 1) os us := by
  cases r with
  | v h1 r =>
    simp only [getO, Option.some.injEq] at h
    exact ⟨_, _, rfl, h ▸ h1, r⟩
  | s h1 r =>
    rename_i i v us
    have h' : st[i]? = some (some d) := by
      simp only [getO] at h
      cases q : st[i]? with
      | none => rw [q] at h; cases h
      | some z => rw [q] at h; exact congrArg some h
    obtain ⟨v', e', r'⟩ := s.at_ i d h'
    rw [h1] at e'
    cases e'
    exact ⟨_, _, rfl, r', r⟩
theorem OReps.vw1 {K : PySem.W.Frag} {R : Nat → Bool} {σ0 σ : L2.St} {st : S} {H : Hp} {ω : Om} {n : Nat} {o : Opd} {os : List Opd} {vs : List V} {d : D} (s : Sim K R σ0 st σ H ω) (r : OReps K H ω σ n (o :: os) vs) (h : getO st o = some d) :
    ∃ v us, vs = v :: us ∧ Vw K H d v ∧ OReps K H ω σ (n + 1) os us := by
  obtain ⟨v, us, e, r1, r2⟩ := r.get s h
  refine ⟨v, us, e, ?_, r2⟩
  cases o with
  | v _ => exact ⟨_, _, _, r1⟩
  | s _ => exact ⟨_, _, _, r1⟩
def getL (st : S) : List Opd → Option (List D)
  | [] => some []
  | o :: os => match getO st o, getL st os with
    | some d, some ds => some (d :: ds)
    | _, _ => none
theorem OReps.vws {K : PySem.W.Frag} {R : Nat → Bool} {σ0 σ : L2.St} {st : S} {H : Hp} {ω : Om} (s : Sim K R σ0 st σ H ω) : ∀ {os : List Opd} {n : Nat} {vs : List V} {ds : List D}, OReps K H ω σ n os vs → getL st os = some ds → VwL K H ds vs
  | [], _, _, _, r, h => by cases h; cases r; rfl
  | o :: os, _, _, _, r, h => by
    unfold getL at h
    cases e1 : getO st o with
    | none => rw [e1] at h; cases h
    | some d =>
      cases e2 : getL st os with
      | none => rw [e1, e2] at h; cases h
      | some ds =>
        rw [e1, e2] at h
        cases h
        obtain ⟨v, us, e, r1, r2⟩ := r.vw1 s e1
        exact ⟨v, us, e, r1, OReps.vws s r2 e2⟩
def opS (f : List D → Option D) (ms : M (List Opd)) : M D := fun st => (ms st).bind fun os s => match getL s os with
  | some ds => (match f ds with
    | some r => .ok r s
    | none => .stuck)
  | none => .stuck
theorem opS_run {f : List D → Option D} {es : List Expr} {ms : M (List Opd)} {st : S} {σ : L2.St} {H : Hp} {ω : Om} {Q : VK} {T : List V → Hp → VK → Prop} (hm : SA C es ms) (s : C.Sim st σ H ω) (p : PostE C σ H ω Q (opS f ms st))
    (hf : ∀ (H : Hp) (ds : List D) (vs : List V) (r : D), VwL C.X.K H ds vs → f ds = some r → ∃ u, scl r = some u ∧ ∀ Q : VK, Q u H → T vs H Q) : WL C.X es σ H fun vs H1 => T vs H1 Q := by
  refine hm 0 st σ H ω _ s ?_
  unfold opS at p
  cases q : ms st with
  | stuck => rw [q] at p; exact p
  | exc x w s1 => rw [q] at p; exact p
  | ok os s1 =>
    rw [q] at p
    simp only [bind_ok] at p
    intro vs H1 ω1 t1 sm1 r1
    cases e2 : getL s1 os with
    | none => rw [e2] at p; exact p.elim
    | some ds =>
      rw [e2] at p
      cases e3 : f ds with
      | none => simp only [e3] at p; exact p.elim
      | some r =>
        simp only [e3] at p
        obtain ⟨u, hu, k⟩ := hf H1 ds vs r (r1.vws sm1 e2) e3
        exact k Q (p u H1 ω1 t1 sm1 (scl_rep hu))
def Sc2 (X : Cx) (op : Value → Value → Sem Value) (f : List D → Option D) : Prop := ∀ (H : Hp) (x y : D) (v w : V) (r : D), Vw X.K H x v → Vw X.K H y w → f [x, y] = some r → ∃ u, scl r = some u ∧ ∀ Q : VK, Q u H → WO X op v w H Q
def e2 (f : List D → Option D) (ma mb : M Opd) : M D := opS f (aCons ma (aCons mb aNil))
def T2 (X : Cx) (op : Value → Value → Sem Value) : List V → Hp → VK → Prop := fun vs H Q => match vs with
  | [v, w] => WO X op v w H Q
  | _ => False
theorem Sc2.two {X : Cx} {op : Value → Value → Sem Value} {f : List D → Option D} (h : Sc2 X op f) (hl : ∀ ds r, f ds = some r → ds.length = 2) : ∀ (H : Hp) (ds : List D) (vs : List V) (r : D), VwL X.K H ds vs → f ds = some r → ∃ u, scl r = some u ∧ ∀ Q : VK, Q u H → T2 X op vs H Q := by
  intro H ds vs r hv e
  match ds, hl ds r e with
  | [x, y], _ =>
    obtain ⟨v, _, rfl, h1, w, _, rfl, h2, rfl⟩ := hv
    exact h H x y v w r h1 h2 e
theorem se_op {op : Operator} {f : List D → Option D} {ma mb : M Opd} (hf : Sc2 C.X (binaryOp op) f) (hl : ∀ ds r, f ds = some r → ds.length = 2) (ha : SO C a ma) (hb : SO C b mb) : SE C (.BinOp a op b pos) (e2 f ma mb) := fun st σ H ω Q s p =>
  ⟨_, pe_op op_w pe_w pe_w, opS_run (T := T2 C.X (binaryOp op)) (sa_cons ha (sa_cons hb sa_nil)) s p (hf.two hl)⟩
theorem se_cmp {op : CmpOp} {f : List D → Option D} {ma mb : M Opd} (hf : Sc2 C.X (compareOp op) f) (hl : ∀ ds r, f ds = some r → ds.length = 2) (ha : SO C a ma) (hb : SO C b mb) (hm : behindInMarks op b = false := by first | exact nomark _ | rfl) : SE C (.Compare a [op] [b] pos) (e2 f ma mb) := fun st σ H ω Q s p =>
  ⟨_, pe_cmpR op_w pe_w pe_w hm, opS_run (T := T2 C.X (compareOp op)) (sa_cons ha (sa_cons hb sa_nil)) s p (hf.two hl)⟩

def fAdd : List D → Option D
  | [.int i, .int j] => some (.int (i + j))
  | [.str x, .str y] => if x.length + y.length ≤ 100000 then some (.str (x ++ y)) else none
  | _ => none
def fSub : List D → Option D
  | [.int i, .int j] => some (.int (i - j))
  | _ => none
def mulOk (i j : Int) : Bool := decide (i.natAbs < 2 ^ 64) || decide (j.natAbs < 2 ^ 64) || decide (i.natAbs.log2 + j.natAbs.log2 < 1000000)
def fMul : List D → Option D
  | [.int i, .int j] => if mulOk i j = true then some (.int (i * j)) else none
  | _ => none
def fDiv : List D → Option D
  | [.int i, .int j] => if j ≠ 0 ∧ j.natAbs < 1073741824 ∨ 0 < j ∧ j.natAbs.log2 < 9000 then some (.int (i.fdiv j)) else none
  | _ => none
def fMod : List D → Option D
  | [.int i, .int j] => if j ≠ 0 then some (.int (i.fmod j)) else none
  | _ => none
def fPow : List D → Option D
  | [.int i, .int j] => if 0 ≤ j ∧ j.natAbs ≤ 1000000 ∧ i.natAbs < 2 ^ 64 then some (.int (i ^ j.toNat)) else none
  | _ => none
def fShl : List D → Option D
  | [.int i, .int j] => if 0 ≤ j ∧ j.natAbs ≤ 1000000 ∧ i.natAbs < 2 ^ 64 then some (.int (i * 2 ^ j.toNat)) else none
  | _ => none
def fCmp (p : Int → Int → Bool) : List D → Option D
  | [.int i, .int j] => some (.bl (p i j))
  | _ => none
def fLt := fCmp fun i j => decide (i < j)
def fLe := fCmp fun i j => decide (i ≤ j)
def fGt := fCmp fun i j => decide (j < i)
def fGe := fCmp fun i j => decide (j ≤ i)
def fEq : List D → Option D
  | [x, y] => if eqOk x y = true then some (.bl (eqD x y)) else none
  | _ => none
def fNe : List D → Option D
  | [x, y] => if eqOk x y = true then some (.bl (!eqD x y)) else none
  | _ => none
def fIs : List D → Option D
  | [.non, .non] => some (.bl true)
  | [.bl _, .non] => some (.bl false)
  | [.int _, .non] => some (.bl false)
  | [.str _, .non] => some (.bl false)
  | [.tup _, .non] => some (.bl false)
  | [.lst _ _, .non] => some (.bl false)
  | [.ins _ _ _ _, .non] => some (.bl false)
  | [.xc _ _, .non] => some (.bl false)
  | _ => none
theorem sc2I {X : Cx} {op : Value → Value → Sem Value} {c : Int → Int → Prop} {g : Int → Int → V} {f : List D → Option D} (ho : OpR X op (rI c g)) (hf : ∀ x y r, f [x, y] = some r → ∃ i j, x = .int i ∧ y = .int j ∧ c i j ∧ scl r = some (g i j)) : Sc2 X op f := by
  intro H x y v w r hx hy e
  obtain ⟨i, j, rfl, rfl, hc, hr⟩ := hf x y r e
  exact ⟨_, hr, fun Q q => ⟨_, ho, i, j, hx.int, hy.int, hc, q⟩⟩
theorem sc2I0 {X : Cx} {op : Value → Value → Sem Value} {g : Int → Int → V} {f : List D → Option D} (ho : OpR X op (rI0 g)) (hf : ∀ x y r, f [x, y] = some r → ∃ i j, x = .int i ∧ y = .int j ∧ scl r = some (g i j)) : Sc2 X op f := by
  intro H x y v w r hx hy e
  obtain ⟨i, j, rfl, rfl, hr⟩ := hf x y r e
  exact ⟨_, hr, fun Q q => ⟨_, ho, i, j, hx.int, hy.int, q⟩⟩
theorem sc_add {X : Cx} : Sc2 X (binaryOp .Add) fAdd := by
  intro H x y v w r hx hy e
  unfold fAdd at e
  split at e
  · rename_i i j h
    cases h
    cases e
    exact ⟨_, rfl, fun Q q => ⟨_, op_add, i, j, hx.int, hy.int, q⟩⟩
  · rename_i i j h
    cases h
    split at e
    · rename_i hz
      cases e
      exact ⟨_, rfl, fun Q q => ⟨_, op_add_str, i, j, hx.str, hy.str, Nat.le_trans hz (by decide), q⟩⟩
    · cases e
  · cases e
theorem sc_sub {X : Cx} : Sc2 X (binaryOp .Sub) fSub := sc2I0 op_sub fun x y r e => by
  unfold fSub at e
  split at e
  · rename_i i j h; cases h; cases e; exact ⟨i, j, rfl, rfl, rfl⟩
  · cases e
theorem sc_mul {X : Cx} : Sc2 X (binaryOp .Mult) fMul := by
  intro H x y v w r hx hy e
  unfold fMul at e
  split at e
  · rename_i i j h
    cases h
    split at e
    · rename_i hz
      cases e
      unfold mulOk at hz
      simp only [Bool.or_eq_true, decide_eq_true_eq] at hz
      rcases hz with (hz | hz) | hz
      · exact ⟨_, rfl, fun Q q => ⟨_, op_mul, i, j, hx.int, hy.int, .inl (by omega), q⟩⟩
      · exact ⟨_, rfl, fun Q q => ⟨_, op_mul, i, j, hx.int, hy.int, .inr (by omega), q⟩⟩
      · exact ⟨_, rfl, fun Q q => ⟨_, op_mulW, i, j, hx.int, hy.int, hz, q⟩⟩
    · cases e
  · cases e
theorem sc_div {X : Cx} : Sc2 X (binaryOp .FloorDiv) fDiv := by
  intro H x y v w r hx hy e
  unfold fDiv at e
  split at e
  · rename_i i j h
    cases h
    split at e
    · rename_i hz
      cases e
      rcases hz with hz | hz
      · exact ⟨_, rfl, fun Q q => ⟨_, op_fdivN, i, j, hx.int, hy.int, hz, q⟩⟩
      · refine ⟨_, rfl, fun Q q => ⟨_, op_fdivW, i, j, hx.int, hy.int, hz, ?_⟩⟩
        rw [Int.fdiv_eq_ediv_of_nonneg i (by omega)] at q
        exact q
    · cases e
  · cases e
theorem sc_mod {X : Cx} : Sc2 X (binaryOp .Mod) fMod := sc2I op_modN fun x y r e => by
  unfold fMod at e
  split at e
  · rename_i i j h
    cases h
    split at e
    · rename_i hz
      cases e
      exact ⟨i, j, rfl, rfl, hz, rfl⟩
    · cases e
  · cases e
theorem sc_pow {X : Cx} : Sc2 X (binaryOp .Pow) fPow := sc2I op_pow fun x y r e => by
  unfold fPow at e
  split at e
  · rename_i i j h
    cases h
    split at e
    · rename_i hz
      cases e
      exact ⟨i, j, rfl, rfl, ⟨hz.1, by omega, hz.2.2⟩, rfl⟩
    · cases e
  · cases e
theorem sc_cmp {X : Cx} {op : Value → Value → Sem Value} {p : Int → Int → Bool} (ho : OpR X op (rI0 fun i j => .bl (p i j))) : Sc2 X op (fCmp p) := sc2I0 ho fun x y r e => by
  unfold fCmp at e
  split at e
  · rename_i i j h; cases h; cases e; exact ⟨i, j, rfl, rfl, rfl⟩
  · cases e
theorem sc_lt {X : Cx} : Sc2 X (compareOp .Lt) fLt := sc_cmp op_lt
theorem sc_le {X : Cx} : Sc2 X (compareOp .LtE) fLe := sc_cmp op_le
theorem sc_gt {X : Cx} : Sc2 X (compareOp .Gt) fGt := sc_cmp op_gt
theorem sc_ge {X : Cx} : Sc2 X (compareOp .GtE) fGe := sc_cmp op_ge
theorem Vw.dp {K : PySem.W.Frag} {H : Hp} {d : D} {v : V} (h : Vw K H d v) (z : plainD d = true) : Dp K H v (toPy d) := by
  obtain ⟨_, _, _, h⟩ := h
  exact h.dp z
theorem sc_eq {X : Cx} (hu : X.A.units + 64 < cLine) : Sc2 X (compareOp .Eq) fEq := by
  intro H x y v w r hx hy e
  unfold fEq at e
  simp only at e
  split at e
  · rename_i hz
    cases e
    simp only [eqOk, Bool.and_eq_true, decide_eq_true_eq] at hz
    exact ⟨_, rfl, fun Q q => ⟨_, op_eqD hu, _, _, hx.dp hz.1.1.1, hy.dp hz.1.1.2, shaped_of hz.1.1.1 hz.1.2, shaped_of hz.1.1.2 hz.2, q⟩⟩
  · cases e
theorem sc_ne {X : Cx} (hu : X.A.units + 64 < cLine) : Sc2 X (compareOp .NotEq) fNe := by
  intro H x y v w r hx hy e
  unfold fNe at e
  simp only at e
  split at e
  · rename_i hz
    cases e
    simp only [eqOk, Bool.and_eq_true, decide_eq_true_eq] at hz
    exact ⟨_, rfl, fun Q q => ⟨_, op_neD hu, _, _, hx.dp hz.1.1.1, hy.dp hz.1.1.2, shaped_of hz.1.1.1 hz.1.2, shaped_of hz.1.1.2 hz.2, q⟩⟩
  · cases e
theorem fIs_spec {K : PySem.W.Frag} {H : Hp} {x y : D} {v w : V} {r : D} (hx : Vw K H x v) (hy : Vw K H y w) (e : fIs [x, y] = some r) : w = .non ∧ r = .bl (decide (v = .non)) := by
  obtain ⟨_, _, _, hx⟩ := hx
  unfold fIs at e
  split at e <;> (try cases e)
  all_goals
    rename_i h
    cases h
    refine ⟨hy.non, ?_⟩
    cases hx
    rfl
theorem sc_is {X : Cx} : Sc2 X (compareOp .Is) fIs := by
  intro H x y v w r hx hy e
  obtain ⟨rfl, rfl⟩ := fIs_spec hx hy e
  exact ⟨_, rfl, fun Q q => ⟨_, op_isN, rfl, q⟩⟩
end
end SV

namespace SV
open PySem PySem.Spec PyProof.Rows L2

def fzw (ω : Om) : Om := fun a => match ω a with
  | some (.res _) => none
  | x => x
theorem fzw_none {ω : Om} {a : Addr} (h : ω a = none) : fzw ω a = none := by unfold fzw; rw [h]
theorem fzw_oth {ω : Om} {a : Addr} (h : ω a = some .oth) : fzw ω a = some .oth := by unfold fzw; rw [h]
theorem fzw_sl {ω : Om} {a : Addr} {i : Nat} {q : List Nat} (h : ω a = some (.sl i q)) : fzw ω a = some (.sl i q) := by unfold fzw; rw [h]
theorem fzw_res {ω : Om} {a : Addr} {q : List Nat} (h : ω a = some (.res q)) : fzw ω a = none := by unfold fzw; rw [h]
section
variable {K : PySem.W.Frag} {R : Nat → Bool} {σ0 σ : L2.St} {st : S} {H H1 H2 : Hp} {ω ω1 ω2 : Om}
theorem Tr.fzw (a : Tr H ω H1 ω1) : Tr H ω H1 (fzw ω1) := ⟨a.tup, fun x u h e => by
    obtain ⟨h1, e1⟩ := a.keep x u h e
    refine ⟨h1, ?_⟩
    rcases e with e | e
    · rw [fzw_none (e1.trans e), e]
    · rw [fzw_oth (e1.trans e), e], a.dom⟩
theorem Sim.fzw (s : Sim K R σ0 st σ H ω) : Sim K R σ0 st σ H (SV.fzw ω) := s.mv (fun _ _ h => h) (fun a u i q h e => ⟨h, fzw_sl e⟩) fun a u h e => ⟨h, fzw_none e⟩
theorem Rep.give {τ : List Nat → Own} {p q : List Nat} {d : D} {v : V} (r : Rep K H ω .res p d v) : Rep K H (SV.fzw ω) τ q (frz d) v := r.fz ⟨fun _ _ h => h, fun a u q h e => ⟨h, fzw_res e⟩, fun a u h e => ⟨h, fzw_none e⟩⟩
theorem Reps.give {τ : List Nat → Own} {p q : List Nat} {k j : Nat} {d : List D} {v : List V} (r : Reps K H ω .res p k d v) : Reps K H (SV.fzw ω) τ q j (frzL d) v := r.fz ⟨fun _ _ h => h, fun a u q h e => ⟨h, fzw_res e⟩, fun a u h e => ⟨h, fzw_none e⟩⟩
theorem Rep.keepF {τ τ' : List Nat → Own} {p q : List Nat} {d : D} {v : V} (hf : frzd d = true) (r : Rep K H ω τ p d v) : Rep K H (SV.fzw ω) τ' q (frz d) v := by
  rw [frz_of hf]
  exact r.any (fun _ _ h => h) (fun a u h e => ⟨h, fzw_none e⟩) hf
theorem Reps.keepF {τ τ' : List Nat → Own} {p q : List Nat} {k j : Nat} {d : List D} {v : List V} (hf : frzdL d = true) (r : Reps K H ω τ p k d v) : Reps K H (SV.fzw ω) τ' q j (frzL d) v := by
  rw [frzL_of hf]
  exact r.any (fun _ _ h => h) (fun a u h e => ⟨h, fzw_none e⟩) hf
theorem Reps.nth {τ : List Nat → Own} : ∀ {ds : List D} {vs : List V} {p : List Nat} {k i : Nat} {d : D}, Reps K H ω τ p k ds vs → ds[i]? = some d → ∃ v, vs[i]? = some v ∧ Rep K H ω τ (p ++ [k + i]) d v
  | [], _, _, _, _, _, _, e => by simp at e
  | d :: ds, _, p, k, 0, _, h, e => by
    cases h with
    | cons a b =>
      simp only [List.getElem?_cons_zero, Option.some.injEq] at e
      exact ⟨_, rfl, e ▸ a⟩
  | d :: ds, _, p, k, i + 1, _, h, e => by
    cases h with
    | cons a b =>
      simp only [List.getElem?_cons_succ] at e ⊢
      obtain ⟨v, h1, h2⟩ := b.nth e
      refine ⟨v, h1, ?_⟩
      rw [show k + (i + 1) = k + 1 + i by omega]
      exact h2
end
def okO (o : Opd) (d : D) : Bool := match o with
  | .v _ => true
  | .s _ => frzd d

section
variable {C : Ct} {a b e : Expr} {es : List Expr} {pos : Pos} {x : Str}

def CallW (X : Cx) (f : Value) : List V → Hp → VK → Prop := fun xs H Q => ∃ r, CallR X f r ∧ r xs H Q
theorem call_w {X : Cx} {f : Value} : CallR X f (CallW X f) := fun pins s σ H xs us Q I rx ⟨r, hr, h⟩ => hr pins s σ H xs us Q I rx h
def StarOk (env : Env) : List Expr → Prop
  | [] => True
  | e :: es => starEach (e :: es) env = (false, eval e env) :: starEach es env ∧ StarOk env es
theorem pa_wl : ∀ {es : List Expr}, StarOk C.X.env es → PA C.X es (WL C.X es)
  | [], _ => pa_nil
  | e :: es, h => pa_cons pe_w (pa_wl h.2) h.1
def ScN (X : Cx) (f : Value) (g : List D → Option D) : Prop := ∀ (H : Hp) (ds : List D) (vs : List V) (r : D), VwL X.K H ds vs → g ds = some r → ∃ u, scl r = some u ∧ ∀ Q : VK, Q u H → CallW X f vs H Q
theorem se_callB {id : String} {g : List D → Option D} {ms : M (List Opd)} {p pos : Pos} (hg : ScN C.X (.builtin id) g) (hx : Gl C.X x) (hm : C.X.mg x = none) (hv : bootBuiltins x = some (.builtin id)) (hs : SA C (e :: es) ms) (hst : StarOk C.X.env (e :: es) := by first | exact ⟨rfl, trivial⟩ | exact ⟨rfl, rfl, trivial⟩ | exact ⟨rfl, rfl, rfl, trivial⟩)
    (hn : x ≠ "__name__" := by decide) (hdb : (x == ("__debug__" : Str)) = false := by decide)
    (he : starEach (e :: es) C.X.env = (false, eval e C.X.env) :: starEach es C.X.env := by rfl) (hpl : (backTo pos (starEach es C.X.env)).any (·.1) = false := by rfl) : SE C (.Call (.Name x p) (e :: es) [] pos) (opS g ms) := fun st σ H ω Q s q =>
  ⟨_, pe_callB call_w hx hm hv (pa_wl hst) hn hdb he hpl, opS_run hs s q hg⟩
theorem se_callTy {T : String} {g : List D → Option D} {ms : M (List Opd)} {p pos : Pos} (hg : ScN C.X (.type T) g) (hx : Gl C.X x) (hm : C.X.mg x = none) (hv : bootBuiltins x = some (.type T)) (hs : SA C (e :: es) ms) (hst : StarOk C.X.env (e :: es) := by first | exact ⟨rfl, trivial⟩ | exact ⟨rfl, rfl, trivial⟩ | exact ⟨rfl, rfl, rfl, trivial⟩)
    (hn : x ≠ "__name__" := by decide) (hdb : (x == ("__debug__" : Str)) = false := by decide)
    (he : starEach (e :: es) C.X.env = (false, eval e C.X.env) :: starEach es C.X.env := by rfl) (hpl : (backTo pos (starEach es C.X.env)).any (·.1) = false := by rfl) : SE C (.Call (.Name x p) (e :: es) [] pos) (opS g ms) := fun st σ H ω Q s q =>
  ⟨_, pe_callTy call_w hx hm hv (pa_wl hst) hn hdb he hpl, opS_run hs s q hg⟩
def fLen : List D → Option D
  | [.str z] => if z.length ≤ 100000 then some (.int z.length) else none
  | [d] => (items d).map fun xs => .int xs.length
  | _ => none
theorem sn_len {X : Cx} : ScN X (.builtin "len") fLen := by
  intro H ds vs r hv e
  unfold fLen at e
  split at e
  · obtain ⟨v, _, rfl, h1, rfl⟩ := hv
    split at e
    · rename_i hz
      cases e
      exact ⟨_, rfl, fun Q q => ⟨_, call_len_str, _, by rw [h1.str], Nat.le_trans hz (by decide), q⟩⟩
    · cases e
  · obtain ⟨v, _, rfl, h1, rfl⟩ := hv
    rename_i d _
    cases q : items d with
    | none => rw [q] at e; cases e
    | some xs =>
      rw [q] at e
      cases e
      obtain ⟨a, ws, rfl, hS, _, hl⟩ := h1.items q
      refine ⟨_, rfl, fun Q q => ⟨_, call_len_seq, a, ws, rfl, hS, ?_⟩⟩
      rw [← hl]
      exact q
  · cases e
def fAbs : List D → Option D
  | [.int i] => some (.int (if i < 0 then -i else i))
  | _ => none
theorem sn_abs {X : Cx} : ScN X (.builtin "abs") fAbs := by
  intro H ds vs r hv e
  unfold fAbs at e
  split at e
  · obtain ⟨v, _, rfl, h1, rfl⟩ := hv
    cases e
    exact ⟨_, rfl, fun Q q => ⟨_, call_abs, _, by rw [h1.int], q⟩⟩
  · cases e
def fMax2 : List D → Option D
  | [.int i, .int j] => some (.int (if j > i then j else i))
  | _ => none
def fMin2 : List D → Option D
  | [.int i, .int j] => some (.int (if j < i then j else i))
  | _ => none
def fInt : List D → Option D
  | [.int i] => some (.int i)
  | [.bl k] => some (.int (if k then 1 else 0))
  | _ => none
theorem sn_int {X : Cx} : ScN X (.type "int") fInt := by
  intro H ds vs r hv e
  unfold fInt at e
  split at e
  · obtain ⟨v, _, rfl, h1, rfl⟩ := hv
    cases e
    exact ⟨_, rfl, fun Q q => ⟨_, call_int1, .inl ⟨_, by rw [h1.int], q⟩⟩⟩
  · obtain ⟨v, _, rfl, h1, rfl⟩ := hv
    cases e
    exact ⟨_, rfl, fun Q q => ⟨_, call_int1, .inr ⟨_, by rw [h1.bl], q⟩⟩⟩
  · cases e
def intsD : List D → Option (List Int)
  | [] => some []
  | .int i :: r => (intsD r).map (i :: ·)
  | _ => none
def blsD : List D → Option (List Bool)
  | [] => some []
  | .bl i :: r => (blsD r).map (i :: ·)
  | _ => none
theorem VwL.intsD {K : PySem.W.Frag} {H : Hp} : ∀ {ds : List D} {vs : List V} {ns : List Int}, VwL K H ds vs → intsD ds = some ns → vs = ns.map V.int
  | [], _, _, h, e => by cases e; exact h
  | d :: ds, _, ns, h, e => by
    obtain ⟨v, r, rfl, h1, h2⟩ := h
    cases d <;> simp only [SV.intsD, reduceCtorEq] at e
    rename_i i
    cases q : SV.intsD ds with
    | none => rw [q] at e; cases e
    | some ms =>
      rw [q] at e
      cases e
      rw [h1.int, h2.intsD q]
      rfl
theorem VwL.blsD {K : PySem.W.Frag} {H : Hp} : ∀ {ds : List D} {vs : List V} {ns : List Bool}, VwL K H ds vs → blsD ds = some ns → vs = ns.map V.bl
  | [], _, _, h, e => by cases e; exact h
  | d :: ds, _, ns, h, e => by
    obtain ⟨v, r, rfl, h1, h2⟩ := h
    cases d <;> simp only [SV.blsD, reduceCtorEq] at e
    rename_i i
    cases q : SV.blsD ds with
    | none => rw [q] at e; cases e
    | some ms =>
      rw [q] at e
      cases e
      rw [h1.bl, h2.blsD q]
      rfl
def lstOf : D → Option (List D)
  | .lst _ xs => some xs
  | .ro xs => some xs
  | _ => none
theorem Vw.lst {K : PySem.W.Frag} {H : Hp} {d : D} {xs : List D} {v : V} (h : Vw K H d v) (e : lstOf d = some xs) : ∃ a vs, v = .ref a ∧ SqL K H a vs ∧ VwL K H xs vs ∧ xs.length = vs.length := by
  obtain ⟨ω, τ, p, h⟩ := h
  cases h with
  | lst h e2 r => cases e; exact ⟨_, _, rfl, .of h, r.vw, rep_len r⟩
  | ro h r => cases e; exact ⟨_, _, rfl, h.sq, r.vw, rep_len r⟩
  | _ => cases e
def fAll : List D → Option D
  | [d] => match (lstOf d).bind blsD with
    | some bs => some (.bl (bs.all id))
    | none => none
  | _ => none
def fAny : List D → Option D
  | [d] => match (lstOf d).bind blsD with
    | some bs => some (.bl (bs.any id))
    | none => none
  | _ => none
def fSum : List D → Option D
  | [d] => match (lstOf d).bind intsD with
    | some bs => some (.int bs.sum)
    | none => none
  | _ => none
theorem lst_bls {K : PySem.W.Frag} {H : Hp} {d : D} {v : V} {bs : List Bool} (h : Vw K H d v) (q : (lstOf d).bind blsD = some bs) : ∃ a, v = .ref a ∧ SqL K H a (bs.map V.bl) := by
  cases z : lstOf d with
  | none => rw [z] at q; cases q
  | some xs =>
    rw [z] at q
    obtain ⟨a, vs, rfl, hS, hv, _⟩ := h.lst z
    exact ⟨a, rfl, by rw [← hv.blsD q]; exact hS⟩
theorem lst_ints {K : PySem.W.Frag} {H : Hp} {d : D} {v : V} {bs : List Int} (h : Vw K H d v) (q : (lstOf d).bind intsD = some bs) : ∃ a, v = .ref a ∧ SqL K H a (bs.map V.int) := by
  cases z : lstOf d with
  | none => rw [z] at q; cases q
  | some xs =>
    rw [z] at q
    obtain ⟨a, vs, rfl, hS, hv, _⟩ := h.lst z
    exact ⟨a, rfl, by rw [← hv.intsD q]; exact hS⟩
theorem sn_all {X : Cx} (hc : X.calm = true) : ScN X (.builtin "all") fAll := by
  intro H ds vs r hv e
  unfold fAll at e
  split at e
  · obtain ⟨v, _, rfl, h1, rfl⟩ := hv
    split at e
    · rename_i bs q
      cases e
      obtain ⟨a, rfl, hS⟩ := lst_bls h1 q
      exact ⟨_, rfl, fun Q q => ⟨_, cr_all hc, a, bs, rfl, hS, q⟩⟩
    · cases e
  · cases e
def tyOf : D → Option String
  | .non => some "NoneType"
  | .bl _ => some "bool"
  | .int _ => some "int"
  | .str _ => some "str"
  | .tup _ => some "tuple"
  | .lst _ _ => some "list"
  | .ro _ => some "list"
  | .dct _ _ _ => some "dict"
  | _ => none
def isB (t T : String) : Bool := t == T || (t == "bool" && T == "int")
def isTys : List String := ["int", "bool", "str", "list", "tuple", "dict"]
def isIn (T : String) : Bool := isTys.contains T
theorem kit_isB : ((["NoneType", "bool", "int", "str", "tuple", "list", "dict"] : List String).all fun t => isTys.all fun T => decide (kitB t T = some (isB t T))) = true := by decide +kernel
theorem tyOf_mem {d : D} {t : String} (h : tyOf d = some t) : t ∈ (["NoneType", "bool", "int", "str", "tuple", "list", "dict"] : List String) := by
  cases d <;> simp only [tyOf, Option.some.injEq, reduceCtorEq] at h <;> subst h <;> simp
theorem kit_of_tyOf {K : PySem.W.Frag} {d : D} {t T : String} (h : tyOf d = some t) (hT : isIn T = true) : PySem.W.kitOne K (.type t) (.type T) = some (isB t T) := by
  refine kit_ty ?_
  have z := List.all_eq_true.mp kit_isB t (tyOf_mem h)
  exact of_decide_eq_true (List.all_eq_true.mp z T (List.contains_iff_mem.mp hT))
def fIsi : List D → Option D
  | [d, .ty T] => match tyOf d with
    | some t => if isIn T = true then some (.bl (isB t T)) else none
    | none => none
  | [d, .tup [.ty T, .ty U]] => match tyOf d with
    | some t => if isIn T = true ∧ isIn U = true then some (.bl (isB t T || isB t U)) else none
    | none => none
  | _ => none
theorem Vw.ty {K : PySem.W.Frag} {H : Hp} {d : D} {v : V} {t : String} (h : Vw K H d v) (e : tyOf d = some t) : TyX K H v (.type t) := by
  obtain ⟨ω, τ, p, h⟩ := h
  cases h with
  | non => cases e; exact .base .non
  | bl => cases e; exact .base (.bl _)
  | int => cases e; exact .base (.int _)
  | str => cases e; exact .base (.str _)
  | fn => cases e
  | ty => cases e
  | tup h _ =>
    cases e
    rcases h with h | ⟨o, its, n, h, hc, _⟩
    · exact .base (.tup h)
    · exact .kTuple h hc
  | lst h _ _ => cases e; exact .base (.lst h)
  | ro h _ =>
    cases e
    rcases h with ⟨h, _⟩ | ⟨o, its, n, h, hc, _⟩
    · rcases h with h | ⟨o, h⟩
      · exact .base (.lst h)
      · exact .base (.frz h)
    · exact .kList h hc
  | dct h _ _ _ => cases e; exact .base (.dK h)
  | dz => cases e
  | ins => cases e
  | xc => cases e
theorem sn_isi {X : Cx} : ScN X (.builtin "isinstance") fIsi := by
  intro H ds vs r hv e
  unfold fIsi at e
  split at e
  · obtain ⟨v, _, rfl, h1, w, _, rfl, h2, rfl⟩ := hv
    split at e
    · rename_i t ht
      split at e
      · rename_i hT
        cases e
        obtain ⟨_, _, _, h2⟩ := h2
        cases h2
        exact ⟨_, rfl, fun Q q => ⟨_, call_isi, _, _, _, _, _, rfl, .ty _, h1.ty ht, kit_of_tyOf ht hT, q⟩⟩
      · cases e
    · cases e
  · obtain ⟨v, _, rfl, h1, w, _, rfl, h2, rfl⟩ := hv
    split at e
    · rename_i T U _ t ht
      split at e
      · rename_i hT
        cases e
        obtain ⟨ω, τ, p, h2⟩ := h2
        cases h2 with
        | tup h r =>
          cases r with
          | cons r1 r2 => cases r2 with
            | cons r2 r3 =>
              cases r1
              cases r2
              cases r3
              have kA : PySem.W.kitAny X.K (.type t) [.type T, .type U] = some (isB t T || isB t U) := by
                refine kitAny_cons (kit_of_tyOf ht hT.1) (fun z => ?_) (fun z => by rw [z]; rfl)
                rw [z]
                exact kitAny_cons (kit_of_tyOf ht hT.2) (fun z => by rw [z]; rfl) (fun z => by rw [z]; rfl)
              rcases h with h | h
              · exact ⟨_, rfl, fun Q q => ⟨_, call_isiT, _, _, _, _, _, _, rfl, h, .cons (.ty _) (.cons (.ty _) .nil), h1.ty ht, kA, q⟩⟩
              · obtain ⟨o, its, n, hk, hc, hd, _, hr⟩ := h
                obtain ⟨oc, od, dt, sl⟩ := o
                cases hc
                cases hd
                have e1 : its = ([.type T, .type U] : List Value).toArray := by
                  cases q : its.toList with
                  | nil => rw [q] at hr; cases hr
                  | cons u us =>
                    rw [q] at hr
                    cases hr with
                    | cons a1 a2 => cases a2 with
                      | cons a2 a3 =>
                        cases a3
                        cases a1
                        cases a2
                        rw [← q]
                subst e1
                exact ⟨_, rfl, fun Q q => ⟨_, call_isiK, _, _, _, _, _, _, _, _, rfl, hk, h1.ty ht, kA, q⟩⟩
      · cases e
    · cases e
  · cases e
theorem se_ty {T : String} (hg : Gl C.X x) (hm : C.X.mg x = none) (hv : bootBuiltins x = some (.type T)) (hn : x ≠ "__name__" := by decide) (hd : (x == ("__debug__" : Str)) = false := by decide) : SE C (.Name x pos) (eC (.ty T)) :=
  fun st σ H ω Q s p => ⟨_, pe_bltn (v := .ty T) hg hm hv rfl hn hd, p _ H ω (Tr.refl _ _) s .ty⟩

def IxW (X : Cx) : R2 := fun x y H Q => ∃ r, IxR X r ∧ r x y H Q
theorem ix_w {X : Cx} : IxR X (IxW X) := fun value slice pins s σ H x y v u Q I rx ry ⟨r, hr, h⟩ hs => hr value slice pins s σ H x y v u Q I rx ry h hs
def ixD : D → D → Option D
  | .str z, .int i => if z.length ≤ 100000 then (atI z.cps.toList i).map fun c => .str ⟨#[c]⟩ else none
  | d, .int i => match items d with
    | some xs => atI xs i
    | none => none
  | _, _ => none
def eIx (ma mb : M Opd) : M D := fun st => (aCons ma (aCons mb aNil) st).bind fun os s => match os with
  | [a, b] => (match getO s a, getO s b with
    | some x, some y => (match ixD x y with
      | some r => if okO a r = true then .ok (frz r) s else .stuck
      | none => .stuck)
    | _, _ => .stuck)
  | _ => .stuck
theorem Rep.items {K : PySem.W.Frag} {H : Hp} {ω : Om} {τ : List Nat → Own} {p : List Nat} {d : D} {xs : List D} {v : V} (h : Rep K H ω τ p d v) (e : items d = some xs) : ∃ a vs, v = .ref a ∧ (SqL K H a vs ∨ SqT K H a vs) ∧ Reps K H ω τ p 0 xs vs ∧ xs.length = vs.length := by
  cases h with
  | lst h e2 r => cases e; exact ⟨_, _, rfl, .inl (.of h), r, rep_len r⟩
  | tup h r => cases e; exact ⟨_, _, rfl, .inr h.sq, r, rep_len r⟩
  | ro h r => cases e; exact ⟨_, _, rfl, .inl h.sq, r, rep_len r⟩
  | _ => cases e
theorem Reps.at {K : PySem.W.Frag} {H : Hp} {ω : Om} {τ : List Nat → Own} {p : List Nat} {xs : List D} {vs : List V} {i : Int} {d : D} (h : Reps K H ω τ p 0 xs vs) (e : atI xs i = some d) : ∃ v q, atI vs i = some v ∧ Rep K H ω τ q d v := by
  unfold atI at e ⊢
  rw [rep_len h] at e
  cases z : ixN vs.length i with
  | none => rw [z] at e; cases e
  | some j =>
    rw [z] at e
    obtain ⟨v, h1, h2⟩ := h.nth (i := j) e
    exact ⟨v, _, h1, h2⟩
theorem se_ix {ma mb : M Opd} (ha : SO C a ma) (hb : SO C b mb) (hs : PlainIx b := by exact fun _ _ => rfl) : SE C (.Subscript a b pos) (eIx ma mb) := fun st σ H ω Q s p => by
  refine ⟨_, pe_ix ix_w pe_w pe_w hs, ?_⟩
  refine sa_cons ha (sa_cons hb sa_nil) 0 st σ H ω (fun vs H2 => match vs with | [v, w] => IxW C.X v w H2 Q | _ => False) s ?_
  unfold eIx at p
  cases q : aCons ma (aCons mb aNil) st with
  | stuck => rw [q] at p; exact p
  | exc x w s1 => rw [q] at p; exact p
  | ok os s1 =>
    rw [q] at p
    simp only [bind_ok] at p
    intro vs H1 ω1 t1 sm1 r1
    match os, p, r1 with
    | [oa, ob], p, r1 =>
      simp only at p
      cases e1 : getO s1 oa with
      | none => rw [e1] at p; exact p.elim
      | some x =>
        cases e2 : getO s1 ob with
        | none => rw [e1, e2] at p; exact p.elim
        | some y =>
          simp only [e1, e2] at p
          cases e3 : ixD x y with
          | none => simp only [e3] at p; exact p.elim
          | some r =>
            simp only [e3] at p
            by_cases ho : okO oa r = true
            · rw [if_pos ho] at p
              obtain ⟨v, us, rfl, ra, r2⟩ := r1.get sm1 e1
              obtain ⟨w, us2, rfl, rb, r3⟩ := r2.vw1 sm1 e2
              cases r3
              show IxW C.X v w H1 Q
              have fin : ∀ u, Rep C.X.K H1 (SV.fzw ω1) .res [] (frz r) u → Q u H1 := fun u ru => p u H1 (SV.fzw ω1) t1.fzw sm1.fzw ru
              unfold ixD at e3
              split at e3
              · rename_i z i
                split at e3
                · rename_i hz
                  cases q3 : atI z.cps.toList i with
                  | none => rw [q3] at e3; cases e3
                  | some c =>
                    rw [q3] at e3
                    cases e3
                    have ev : v = .str z := by
                      cases oa with
                      | v _ => cases ra; rfl
                      | s _ => cases ra; rfl
                    subst ev
                    exact ⟨_, ix_str, z, i, c, rfl, rb.int, Nat.le_trans hz (by decide), q3, fin _ .str⟩
                · cases e3
              · rename_i i _
                cases q3 : items x with
                | none => rw [q3] at e3; cases e3
                | some xs =>
                  rw [q3] at e3
                  have key : ∃ a vs u, v = .ref a ∧ (SqL C.X.K H1 a vs ∨ SqT C.X.K H1 a vs) ∧ atI vs i = some u ∧ Rep C.X.K H1 (SV.fzw ω1) .res [] (frz r) u := by
                    cases oa with
                    | v _ =>
                      obtain ⟨a, vs, rfl, hS, hr, _⟩ := Rep.items ra q3
                      obtain ⟨u, qq, h1, h2⟩ := hr.at e3
                      exact ⟨a, vs, u, rfl, hS, h1, h2.give⟩
                    | s _ =>
                      obtain ⟨a, vs, rfl, hS, hr, _⟩ := Rep.items ra q3
                      obtain ⟨u, qq, h1, h2⟩ := hr.at e3
                      exact ⟨a, vs, u, rfl, hS, h1, h2.keepF ho⟩
                  obtain ⟨a, vs, u, rfl, hS, h1, h2⟩ := key
                  rcases hS with hS | hS
                  · exact ⟨_, ix_list, a, vs, i, u, rfl, rb.int, hS, h1, fin u h2⟩
                  · exact ⟨_, ix_tup, a, vs, i, u, rfl, rb.int, hS, h1, fin u h2⟩
              · cases e3
            · rw [if_neg ho] at p
              exact p.elim
    | [], p, _ => exact p.elim
    | [_], p, _ => exact p.elim
    | _ :: _ :: _ :: _, p, _ => exact p.elim

def keepL (st : S) : List Opd → Option (List D)
  | [] => some []
  | .v d :: os => (keepL st os).map (d :: ·)
  | .s i :: os => match (st[i]?).join, keepL st os with
    | some d, some ds => if frzd d = true then some (d :: ds) else none
    | _, _ => none
theorem OReps.keep {K : PySem.W.Frag} {R : Nat → Bool} {σ0 σ : L2.St} {st : S} {H : Hp} {ω : Om} (s : Sim K R σ0 st σ H ω) : ∀ {os : List Opd} {n : Nat} {vs : List V} {ds : List D}, OReps K H ω σ n os vs → keepL st os = some ds → Reps K H ω .res [] n ds vs
  | [], _, _, _, r, h => by cases h; cases r; exact .nil
  | .v d :: os, _, _, _, r, h => by
    unfold keepL at h
    cases q : keepL st os with
    | none => rw [q] at h; cases h
    | some ds =>
      rw [q] at h
      cases h
      cases r with
      | v a b => exact .cons a (OReps.keep s b q)
  | .s i :: os, _, _, _, r, h => by
    unfold keepL at h
    cases q1 : (st[i]?).join with
    | none => rw [q1] at h; cases h
    | some d =>
      cases q : keepL st os with
      | none => rw [q1, q] at h; cases h
      | some ds =>
        simp only [q1, q] at h
        by_cases hf : frzd d = true
        · rw [if_pos hf] at h
          cases h
          obtain ⟨v, us, rfl, r1, r2⟩ := r.get (d := d) s q1
          exact .cons (r1.any (fun _ _ h => h) (fun a u h z => ⟨h, z⟩) hf) (OReps.keep s r2 q)
        · rw [if_neg hf] at h
          cases h
def eTup (ms : M (List Opd)) : M D := fun st => (ms st).bind fun os s => match keepL s os with
  | some ds => if ds.length ≤ 100000 then .ok (.tup ds) s else .stuck
  | none => .stuck
def eLst (ms : M (List Opd)) : M D := fun st => (ms st).bind fun os s => match keepL s os with
  | some ds => if ds.length ≤ 100000 then .ok (.lst true ds) s else .stuck
  | none => .stuck
def ownN (ω : Om) (p : Addr) : Om := fun a => if a = p then some (.res []) else ω a
theorem ownN_same {ω : Om} {p : Addr} : ownN ω p p = some (.res []) := by unfold ownN; rw [if_pos rfl]
theorem ownN_ne {ω : Om} {p a : Addr} (h : a ≠ p) : ownN ω p a = ω a := by unfold ownN; rw [if_neg h]
theorem Tr.newN {H H1 : Hp} {ω ω1 : Om} {p : Addr} {o : HO} (t : Tr H ω H1 ω1) (hp : H1 p = none) : Tr H ω (upd H1 p o) (ownN ω1 p) := by
  refine ⟨fun a vs h => Ext.new hp a _ (t.tup a vs h), fun a u h e => ?_, fun a h => Ext.dom (Ext.new hp) a (t.dom a h)⟩
  obtain ⟨h1, e1⟩ := t.keep a u h e
  exact ⟨Ext.new hp a _ h1, (ownN_ne (ne_of_none h1 hp)).trans e1⟩
theorem Sim.newN {K : PySem.W.Frag} {R : Nat → Bool} {σ0 σ : L2.St} {st : S} {H : Hp} {ω : Om} {p : Addr} {o : HO} (s : Sim K R σ0 st σ H ω) (hp : H p = none) : Sim K R σ0 st σ (upd H p o) (ownN ω p) :=
  s.mv (fun a vs h => Ext.new hp a _ h) (fun a u i q h e => ⟨Ext.new hp a _ h, (ownN_ne (ne_of_none h hp)).trans e⟩) fun a u h e => ⟨Ext.new hp a _ h, (ownN_ne (ne_of_none h hp)).trans e⟩
theorem Reps.newN {K : PySem.W.Frag} {H : Hp} {ω : Om} {p : Addr} {o : HO} {q : List Nat} {k : Nat} {ds : List D} {vs : List V} (hp : H p = none) (r : Reps K H ω .res q k ds vs) : Reps K (upd H p o) (ownN ω p) .res q k ds vs :=
  r.mv (g := id) ⟨fun _ _ => rfl, fun a vs h => Ext.new hp a _ h, fun a u q h e => ⟨Ext.new hp a _ h, (ownN_ne (ne_of_none h hp)).trans e⟩, fun a u h e => ⟨Ext.new hp a _ h, (ownN_ne (ne_of_none h hp)).trans e⟩⟩
theorem se_tup {ms : M (List Opd)} {x1} (hs : SA C es ms) (hst : StarOk C.X.env es := by repeat' (first | exact trivial | exact rfl | constructor)) : SE C (.Tuple es x1 pos) (eTup ms) := fun st σ H ω Q s p => by
  refine ⟨_, pe_tup (pa_wl hst), ?_⟩
  refine hs 0 st σ H ω _ s ?_
  unfold eTup at p
  cases q : ms st with
  | stuck => rw [q] at p; exact p
  | exc x w s1 => rw [q] at p; exact p
  | ok os s1 =>
    rw [q] at p
    simp only [bind_ok] at p
    intro vs H1 ω1 t1 sm1 r1
    cases e1 : keepL s1 os with
    | none => rw [e1] at p; exact p.elim
    | some ds =>
      rw [e1] at p
      by_cases hz : ds.length ≤ 100000
      · simp only [hz, if_true] at p
        have r := OReps.keep sm1 r1 e1
        refine ⟨by rw [← rep_len r]; exact Nat.le_trans hz (by decide), fun a ha => ?_⟩
        exact p _ _ _ (t1.newN ha) (sm1.newN ha) (.tup (.inl upd_same) (r.newN ha))
      · simp only [hz, if_false] at p
        exact p.elim
theorem se_lst {ms : M (List Opd)} (hs : SA C es ms) (hst : StarOk C.X.env es := by repeat' (first | exact trivial | exact rfl | constructor)) : SE C (.List es pos) (eLst ms) := fun st σ H ω Q s p => by
  refine ⟨_, pe_lst (pa_wl hst), ?_⟩
  refine hs 0 st σ H ω _ s ?_
  unfold eLst at p
  cases q : ms st with
  | stuck => rw [q] at p; exact p
  | exc x w s1 => rw [q] at p; exact p
  | ok os s1 =>
    rw [q] at p
    simp only [bind_ok] at p
    intro vs H1 ω1 t1 sm1 r1
    cases e1 : keepL s1 os with
    | none => rw [e1] at p; exact p.elim
    | some ds =>
      rw [e1] at p
      by_cases hz : ds.length ≤ 100000
      · simp only [hz, if_true] at p
        have r := OReps.keep sm1 r1 e1
        refine ⟨by rw [← rep_len r]; exact Nat.le_trans hz (by decide), fun a ha => ?_⟩
        exact p _ _ _ (t1.newN ha) (sm1.newN ha) (.lst upd_same ownN_same (r.newN ha))
      · simp only [hz, if_false] at p
        exact p.elim
end
end SV

namespace SV
open PySem PySem.Spec PyProof.Rows L2

structure RoomG (k : Nat) (A : Around) : Prop where
  rm : Room k A
  gd : A.guards = some []
theorem RoomG.mono {j k : Nat} {A : Around} (r : RoomG k A) (h : j ≤ k) : RoomG j A := ⟨r.rm.mono h, r.gd⟩
theorem RoomG.deeper {k : Nat} {A : Around} (r : RoomG (k + 1) A) (env : Env) : RoomG k (A.deeper env) := ⟨r.rm.deeper env, r.gd⟩
structure Ct.Ok (C : Ct) (lv : Nat) : Prop where
  room : RoomG lv C.X.A
  tk : Takes C.X C.W
  calm : C.X.calm = true
  own : PassesOwn (model C.X.prog C.X.w) C.X.A C.X.env C.X.xe
  units : C.X.A.units + 64 < cLine
  nd : C.X.N.Nodup

section
variable {C : Ct} {a b c e : Expr} {es : List Expr} {pos : Pos} {x : Str} {H H1 : Hp} {ω ω1 : Om} {σ : L2.St}
theorem PostE.pre {Q : VK} (t : Tr H ω H1 ω1) : ∀ {r}, PostE C σ H ω Q r → PostE C σ H1 ω1 Q r
  | .ok _ _, p => fun v H' ω' t' => p v H' ω' (t.trans t')
  | .exc _ _ _, p => PX.pre t p
  | .stuck, p => p
theorem PostT.pre {Q : Bool → Hp → Prop} (t : Tr H ω H1 ω1) : ∀ {r}, PostT C σ H ω Q r → PostT C σ H1 ω1 Q r
  | .ok _ _, p => fun H' ω' t' => p H' ω' (t.trans t')
  | .exc _ _ _, p => PX.pre t p
  | .stuck, p => p
theorem PostS.pre {N : Ends} (t : Tr H ω H1 ω1) : ∀ {r}, PostS C H ω N r → PostS C H1 ω1 N r
  | .ok .nx _, p => fun σ' H' ω' t' => p σ' H' ω' (t.trans t')
  | .ok (.rt _) _, p => fun v σ' H' ω' t' => p v σ' H' ω' (t.trans t')
  | .ok .bk _, p => fun σ' H' ω' t' => p σ' H' ω' (t.trans t')
  | .ok .ct _, p => fun σ' H' ω' t' => p σ' H' ω' (t.trans t')
  | .exc _ _ _, p => PX.pre t p
  | .stuck, p => p
theorem SE.then {m : M D} {β : Type} {f : D → S → Rs β} {st : S} {Q : VK} {P : Rs β → Prop} (h : SE C e m) (s : C.Sim st σ H ω) (p : P ((m st).bind f)) (hx : ∀ x w s', P (.exc x w s') → PX C H ω x w s') (hs : ¬ P .stuck)
    (k : ∀ d s1, P (f d s1) → ∀ v H1 ω1, Tr H ω H1 ω1 → C.Sim s1 σ H1 ω1 → Rep C.X.K H1 ω1 .res [] d v → Q v H1) : WE C.X e σ H Q := by
  refine h st σ H ω Q s ?_
  cases q : m st with
  | stuck => rw [q] at p; exact (hs p).elim
  | exc x w s1 => rw [q] at p; exact hx _ _ _ p
  | ok d s1 => rw [q] at p; exact k d s1 p
theorem SO.then {m : M Opd} {β : Type} {f : Opd → S → Rs β} {st : S} {Q : VK} {P : Rs β → Prop} (h : SO C e m) (s : C.Sim st σ H ω) (p : P ((m st).bind f)) (hx : ∀ x w s', P (.exc x w s') → PX C H ω x w s') (hs : ¬ P .stuck)
    (k : ∀ o s1, P (f o s1) → ∀ v H1 ω1, Tr H ω H1 ω1 → C.Sim s1 σ H1 ω1 → OReps C.X.K H1 ω1 σ 0 [o] [v] → Q v H1) : WE C.X e σ H Q := by
  have key : WL C.X [e] σ H fun vs H1 => match vs with | [v] => Q v H1 | _ => False := by
    refine sa_cons h sa_nil 0 st σ H ω _ s ?_
    unfold aCons
    cases q : m st with
    | stuck => rw [q] at p; exact (hs p).elim
    | exc x w s1 => rw [q] at p; exact hx _ _ _ p
    | ok o s1 =>
      rw [q] at p
      show PostA C σ H ω 0 _ (Rs.ok [o] s1)
      intro vs H1 ω1 t1 sm1 r1
      cases r1 with
      | v a b => cases b; exact k _ s1 p _ H1 ω1 t1 sm1 (.v a .nil)
      | s a b => cases b; exact k _ s1 p _ H1 ω1 t1 sm1 (.s a .nil)
  exact key
theorem ST.then {m : M Bool} {β : Type} {f : Bool → S → Rs β} {st : S} {Q : Bool → Hp → Prop} {P : Rs β → Prop} (h : ST C e m) (s : C.Sim st σ H ω) (p : P ((m st).bind f)) (hx : ∀ x w s', P (.exc x w s') → PX C H ω x w s') (hs : ¬ P .stuck)
    (k : ∀ d s1, P (f d s1) → ∀ H1 ω1, Tr H ω H1 ω1 → C.Sim s1 σ H1 ω1 → Q d H1) : WT C.X e σ H Q := by
  refine h st σ H ω Q s ?_
  cases q : m st with
  | stuck => rw [q] at p; exact (hs p).elim
  | exc x w s1 => rw [q] at p; exact hx _ _ _ p
  | ok d s1 => rw [q] at p; exact k d s1 p

def tB (m : M D) : M Bool := fun st => (m st).bind fun d s => match d with
  | .bl b => .ok b s
  | _ => .stuck
theorem st_cmp {op : CmpOp} {f : List D → Option D} {ma mb : M Opd} (hf : Sc2 C.X (compareOp op) f) (hl : ∀ ds r, f ds = some r → ds.length = 2) (ha : SO C a ma) (hb : SO C b mb) (hm : behindInMarks op b = false := by first | exact nomark _ | rfl) : ST C (.Compare a [op] [b] pos) (tB (e2 f ma mb)) := fun st σ H ω Q s p => by
  refine ⟨_, pt_cmpR op_w pe_w pe_w hm, ?_⟩
  refine opS_run (T := T2 C.X (compareOp op)) (Q := fun x H' => ∃ k, x = .bl k ∧ Q k H') (sa_cons ha (sa_cons hb sa_nil)) s ?_ (hf.two hl)
  unfold tB at p
  cases q : e2 f ma mb st with
  | stuck => rw [q] at p; exact p.elim
  | exc x w s1 => rw [q] at p; unfold e2 at q; rw [q]; exact p
  | ok d s1 =>
    rw [q] at p
    unfold e2 at q
    rw [q]
    intro v H1 ω1 t1 sm1 r1
    simp only [bind_ok] at p
    cases d with
    | bl b => cases r1; exact ⟨b, rfl, p H1 ω1 t1 sm1⟩
    | _ => exact p.elim
def truD : D → Option Bool
  | .non => some false
  | .bl b => some b
  | .int i => some (i != 0)
  | .str y => if y.length ≤ 100000 then some ((y.length : Int) != 0) else none
  | .dct _ ks _ => some (!ks.isEmpty)
  | d => (items d).map fun xs => !xs.isEmpty
def tTr (m : M Opd) : M Bool := fun st => (m st).bind fun o s => match (getO s o).bind truD with
  | some b => .ok b s
  | none => .stuck
theorem isE_len {α β : Type} {xs : List α} {ys : List β} (h : xs.length = ys.length) : xs.isEmpty = ys.isEmpty := by
  cases xs <;> cases ys <;> simp at h ⊢
theorem Vw.tru {K : PySem.W.Frag} {H : Hp} {d : D} {v : V} {k : Bool} (h : Vw K H d v) (e : truD d = some k) : TruV K v H k := by
  obtain ⟨ω, τ, p, h⟩ := h
  cases h with
  | non => cases e; rfl
  | bl => cases e; rfl
  | int => cases e; rfl
  | str =>
    simp only [truD] at e
    split at e
    · rename_i hz
      cases e
      exact ⟨Nat.le_trans hz (by decide), rfl⟩
    · cases e
  | fn => cases e
  | ty => cases e
  | tup h r => cases e; exact .inr (.inl ⟨_, h.sq, by simp only [isE_len (rep_len r)]⟩)
  | lst h _ r => cases e; exact .inl ⟨_, .of h, by simp only [isE_len (rep_len r)]⟩
  | ro h r => cases e; exact .inl ⟨_, h.sq, by simp only [isE_len (rep_len r)]⟩
  | dz => cases e
  | dct h l _ r =>
    cases e
    refine .inr (.inr ⟨_, h, ?_⟩)
    rename_i ks xs vs _
    cases ks <;> cases vs <;> simp at l ⊢
  | ins => cases e
  | xc => cases e
theorem st_tr {m : M Opd} (h : SO C e m) (he : ∀ whole, isTrue e C.X.env whole = (do let v ← whole; standAt e.pos; holding [v] (truthy v)) := by intro _; rfl) : ST C e (tTr m) := fun st σ H ω Q s p =>
  ⟨_, pt_truth pe_w he, h.then s p (fun _ _ _ p => p) (fun p => p) fun o s1 p v H1 ω1 t1 sm1 r1 => by
    cases q : getO s1 o with
    | none => rw [q] at p; exact p.elim
    | some d =>
      rw [q] at p
      cases q2 : truD d with
      | none => rw [Option.bind_some, q2] at p; exact p.elim
      | some k =>
        rw [Option.bind_some, q2] at p
        obtain ⟨v', us, ee, r2, _⟩ := r1.vw1 sm1 q
        cases ee
        exact ⟨k, r2.tru q2, p H1 ω1 t1 sm1⟩⟩
def tNot (m : M Bool) : M Bool := fun st => (m st).bind fun b s => .ok (!b) s
theorem st_not {m : M Bool} (h : ST C a m) : ST C (.UnaryOp .Not a pos) (tNot m) := fun st σ H ω Q s p =>
  ⟨_, pt_not pt_w, h.then (Q := fun c H1 => Q (!c) H1) s p (fun _ _ _ p => p) (fun p => p) fun d s1 p H1 ω1 t1 sm1 => p H1 ω1 t1 sm1⟩
def WW (X : Cx) (e : Expr) : TT := fun σ H Q => ∃ t, PW X e t ∧ t σ H Q
theorem pw_w {X : Cx} {e : Expr} : PW X e (WW X e) := ⟨fun wh pins s σ H Q I ⟨t, hp, ht⟩ => hp.run wh pins s σ H Q I ht⟩
def SW (C : Ct) (e : Expr) (m : M Bool) : Prop := ∀ st σ H ω Q, C.Sim st σ H ω → PostT C σ H ω Q (m st) → WW C.X e σ H Q
theorem st_w {m : M Bool} (h : SW C e m) : ST C e m := fun st σ H ω Q s p => by
  obtain ⟨t, h1, h2⟩ := h st σ H ω Q s p
  exact ⟨t, h1.pt, h2⟩
def tAnd (m n : M Bool) : M Bool := fun st => (m st).bind fun b s => if b = true then n s else .ok false s
def tOr (m n : M Bool) : M Bool := fun st => (m st).bind fun b s => if b = true then .ok true s else n s
theorem sw_and1 {m : M Bool} (h : ST C a m) : SW C (.BoolOp .And [a] pos) m := fun st σ H ω Q s p => ⟨_, pw_and1 pt_w, h st σ H ω Q s p⟩
theorem sw_or1 {m : M Bool} (h : ST C a m) : SW C (.BoolOp .Or [a] pos) m := fun st σ H ω Q s p => ⟨_, pw_or1 pt_w, h st σ H ω Q s p⟩
theorem sw_and {m n : M Bool} {r : List Expr} (h : ST C a m) (hr : SW C (.BoolOp .And (b :: r) pos) n) : SW C (.BoolOp .And (a :: b :: r) pos) (tAnd m n) := fun st σ H ω Q s p =>
  ⟨_, pw_and pt_w pw_w, h.then (Q := fun c H1 => if c = true then WW C.X (.BoolOp .And (b :: r) pos) σ H1 Q else Q false H1) s p (fun _ _ _ p => p) (fun p => p) fun d s1 p H1 ω1 t1 sm1 => by
    cases d with
    | true => exact hr s1 σ H1 ω1 Q sm1 (PostT.pre t1 p)
    | false => exact p H1 ω1 t1 sm1⟩
theorem sw_or {m n : M Bool} {r : List Expr} (h : ST C a m) (hr : SW C (.BoolOp .Or (b :: r) pos) n) : SW C (.BoolOp .Or (a :: b :: r) pos) (tOr m n) := fun st σ H ω Q s p =>
  ⟨_, pw_or pt_w pw_w, h.then (Q := fun c H1 => if c = true then Q true H1 else WW C.X (.BoolOp .Or (b :: r) pos) σ H1 Q) s p (fun _ _ _ p => p) (fun p => p) fun d s1 p H1 ω1 t1 sm1 => by
    cases d with
    | true => exact p H1 ω1 t1 sm1
    | false => exact hr s1 σ H1 ω1 Q sm1 (PostT.pre t1 p)⟩
def eAnd (m n : M D) : M D := fun st => (m st).bind fun d s => match d with
  | .bl true => n s
  | .bl false => .ok (.bl false) s
  | _ => .stuck
def eOr (m n : M D) : M D := fun st => (m st).bind fun d s => match d with
  | .bl true => .ok (.bl true) s
  | .bl false => n s
  | _ => .stuck
theorem se_one {op} {m : M D} (h : SE C a m) : SE C (.BoolOp op [a] pos) m := fun st σ H ω Q s p => ⟨_, pe_one pe_w, h st σ H ω Q s p⟩
theorem se_and {m n : M D} {r : List Expr} (h : SE C a m) (hr : SE C (.BoolOp .And (b :: r) pos) n) : SE C (.BoolOp .And (a :: b :: r) pos) (eAnd m n) := fun st σ H ω Q s p =>
  ⟨_, pe_and pe_w pe_w, h.then s p (fun _ _ _ p => p) (fun p => p) fun d s1 p v H1 ω1 t1 sm1 r1 => by
    cases d with
    | bl k =>
      cases r1
      cases k with
      | true => exact ⟨true, rfl, hr s1 σ H1 ω1 Q sm1 (PostE.pre t1 p)⟩
      | false => exact ⟨false, rfl, p _ H1 ω1 t1 sm1 .bl⟩
    | _ => exact p.elim⟩
def eNot (m : M D) : M D := fun st => (m st).bind fun d s => match d with
  | .bl b => .ok (.bl (!b)) s
  | _ => .stuck
theorem se_not {m : M D} (h : SE C a m) : SE C (.UnaryOp .Not a pos) (eNot m) := fun st σ H ω Q s p =>
  ⟨_, pe_not pe_w, h.then s p (fun _ _ _ p => p) (fun p => p) fun d s1 p v H1 ω1 t1 sm1 r1 => by
    cases d with
    | bl k => cases r1; exact ⟨k, rfl, p _ H1 ω1 t1 sm1 .bl⟩
    | _ => exact p.elim⟩
def eNeg (m : M D) : M D := fun st => (m st).bind fun d s => match d with
  | .int i => .ok (.int (-i)) s
  | _ => .stuck
theorem se_neg {m : M D} (h : SE C a m) : SE C (.UnaryOp .USub a pos) (eNeg m) := fun st σ H ω Q s p =>
  ⟨_, pe_un un_neg pe_w, h.then s p (fun _ _ _ p => p) (fun p => p) fun d s1 p v H1 ω1 t1 sm1 r1 => by
    cases d with
    | int k => cases r1; exact ⟨k, rfl, p _ H1 ω1 t1 sm1 .int⟩
    | _ => exact p.elim⟩
def eIf (t : M Bool) (m n : M D) : M D := fun st => (t st).bind fun b s => if b = true then m s else n s
theorem se_if {t : M Bool} {m n : M D} (ht : ST C c t) (h : SE C a m) (h' : SE C b n) : SE C (.IfExp c a b pos) (eIf t m n) := fun st σ H ω Q s p =>
  ⟨_, pe_ifExp pt_w pe_w pe_w, ht.then (Q := fun c H1 => if c = true then WE C.X a σ H1 Q else WE C.X b σ H1 Q) s p (fun _ _ _ p => p) (fun p => p) fun d s1 p H1 ω1 t1 sm1 => by
    cases d with
    | true => exact h s1 σ H1 ω1 Q sm1 (PostE.pre t1 p)
    | false => exact h' s1 σ H1 ω1 Q sm1 (PostE.pre t1 p)⟩
end

section
variable {C : Ct} {a b c e : Expr} {es : List Expr} {pos : Pos} {x : Str} {H H1 : Hp} {ω ω1 : Om} {σ : L2.St} {s1 : Stmt} {ss : List Stmt}
def sNil : M Fl := fun st => .ok .nx st
def sSeq (m n : M Fl) : M Fl := fun st => (m st).bind fun f s => match f with
  | .nx => n s
  | f => .ok f s
theorem ss_nil : SSs C [] sNil := fun st σ H ω N s p => ⟨_, pss_nil, p σ H ω (Tr.refl _ _) s⟩
theorem SS.then {m : M Fl} {n : M Fl} {st : S} {N N' : Ends} (h : SS C s1 m) (s : C.Sim st σ H ω) (p : PostS C H ω N (sSeq m n st))
    (hr : N'.rt = N.rt) (hb : N'.bk = N.bk) (hc : N'.ct = N.ct) (k : ∀ s1 σ' H1 ω1, PostS C H ω N (n s1) → Tr H ω H1 ω1 → C.Sim s1 σ' H1 ω1 → N'.nx σ' H1) : WS C.X s1 N' σ H := by
  refine h st σ H ω N' s ?_
  unfold sSeq at p
  cases q : m st with
  | stuck => rw [q] at p; exact p
  | exc x w s1 => rw [q] at p; exact p
  | ok f s1 =>
    rw [q] at p
    cases f with
    | nx => exact fun σ' H' ω' t' sm' => k s1 σ' H' ω' p t' sm'
    | rt d =>
      intro v σ' H' ω' t' sm' r'
      rw [hr]
      exact p v σ' H' ω' t' sm' r'
    | bk =>
      intro σ' H' ω' t' sm'
      rw [hb]
      exact p σ' H' ω' t' sm'
    | ct =>
      intro σ' H' ω' t' sm'
      rw [hc]
      exact p σ' H' ω' t' sm'
theorem ss_cons {m n : M Fl} (h : SS C s1 m) (hs : SSs C ss n) : SSs C (s1 :: ss) (sSeq m n) := fun st σ H ω N s p =>
  ⟨_, pss_cons ps_w pss_w, h.then (N' := { N with nx := WSs C.X ss N }) s p rfl rfl rfl fun s1 σ' H1 ω1 p t1 sm1 => hs s1 σ' H1 ω1 N sm1 (PostS.pre t1 p)⟩
def slw (i : Nat) (ω : Om) : Om := fun a => match ω a with
  | some (.res q) => some (.sl i q)
  | x => x
theorem slw_none {i : Nat} {ω : Om} {a : Addr} (h : ω a = none) : slw i ω a = none := by unfold slw; rw [h]
theorem slw_oth {i : Nat} {ω : Om} {a : Addr} (h : ω a = some .oth) : slw i ω a = some .oth := by unfold slw; rw [h]
theorem slw_sl {i j : Nat} {ω : Om} {a : Addr} {q : List Nat} (h : ω a = some (.sl j q)) : slw i ω a = some (.sl j q) := by unfold slw; rw [h]
theorem slw_res {i : Nat} {ω : Om} {a : Addr} {q : List Nat} (h : ω a = some (.res q)) : slw i ω a = some (.sl i q) := by unfold slw; rw [h]
theorem Tr.slw {i : Nat} (a : Tr H ω H1 ω1) : Tr H ω H1 (SV.slw i ω1) := ⟨a.tup, fun x u h e => by
    obtain ⟨h1, e1⟩ := a.keep x u h e
    refine ⟨h1, ?_⟩
    rcases e with e | e
    · rw [slw_none (e1.trans e), e]
    · rw [slw_oth (e1.trans e), e], a.dom⟩
theorem Sim.set {i : Nat} {K : PySem.W.Frag} {R : Nat → Bool} {σ0 : L2.St} {st : S} {d : D} {v : V} (s : Sim K R σ0 st σ H ω) (hR : R i = false) (r : Rep K H ω .res [] d v) : Sim K R σ0 (st.set i (some d)) (σ.set i (some v)) H (slw i ω) := by
  refine ⟨by simp [s.len], fun j d' h => ?_, fun j hj => ?_⟩
  · by_cases e : i = j
    · subst e
      by_cases hi : i < st.length
      · rw [List.getElem?_set_self hi] at h
        cases h
        refine ⟨v, by rw [List.getElem?_set_self (by rw [← s.len]; exact hi)], ?_⟩
        exact r.mv (g := id) ⟨fun _ _ => rfl, fun _ _ h => h, fun a u q h e => ⟨h, slw_res e⟩, fun a u h e => ⟨h, slw_none e⟩⟩
      · rw [List.getElem?_eq_none (by simpa using hi)] at h
        cases h
    · rw [List.getElem?_set_ne e] at h
      obtain ⟨v', e', r'⟩ := s.at_ j d' h
      refine ⟨v', by rw [List.getElem?_set_ne e]; exact e', ?_⟩
      exact r'.mv (g := id) ⟨fun _ _ => rfl, fun _ _ h => h, fun a u q h e => ⟨h, slw_sl e⟩, fun a u h e => ⟨h, slw_none e⟩⟩
  · have e : i ≠ j := fun z => by rw [z, hj] at hR; cases hR
    rw [List.getElem?_set_ne e]
    exact s.ref_ j hj
def sSet (i : Nat) (m : M D) : M Fl := fun st => (m st).bind fun d s => .ok .nx (s.set i (some d))
theorem ss_set (k : C.Ok lv) {i : Nat} {m : M D} {pos' : Pos} (h : SE C e m) (hi : C.X.N[i]? = some x := by rfl) (hx : Loc C.X.env.scope x := by first | exact Or.inl rfl | exact Or.inr rfl) (hR : C.R i = false := by rfl)
    (hs : swapsWith e (some (.Name x pos')) pos.line C.X.env = pure false := by rfl) (hf : C.X.fn x = true ∨ C.X.env.scope.names.lookup x = some .local := by first | exact .inl rfl | exact .inr rfl) : SS C (.Assign [.Name x pos'] e pos) (sSet i m) := fun st σ H ω N s p =>
  ⟨_, ps_set k.nd hi hx pe_w hs hf, h.then s p (fun _ _ _ p => p) (fun p => p) fun d s1 p v H1 ω1 t1 sm1 r1 => p _ _ _ t1.slw (sm1.set hR r1)⟩
def sRet (m : M D) : M Fl := fun st => (m st).bind fun d s => .ok (.rt d) s
theorem ss_ret {m : M D} (h : SE C e m) : SS C (.Return (some e) pos) (sRet m) := fun st σ H ω N s p =>
  ⟨_, ps_ret pe_w, h.then s p (fun _ _ _ p => p) (fun p => p) fun d s1 p v H1 ω1 t1 sm1 r1 => p v _ _ _ t1 sm1 r1⟩
def sRetV (i : Nat) : M Fl := fun st => match st[i]? with
  | some (some d) => .ok (.rt d) (st.set i none)
  | _ => .stuck
def rsw (i : Nat) (ω : Om) : Om := fun a => match ω a with
  | some (.sl j q) => if j = i then some (.res q) else some (.sl j q)
  | x => x
theorem ss_retV {i : Nat} (hN : C.X.N[i]? = some x := by rfl) (hR : C.R i = false := by rfl) (hv : Vis C.X.env.scope x := by first | exact Or.inl rfl | exact Or.inr (Or.inl rfl) | exact Or.inr (Or.inr rfl)) {pos' : Pos} (hd : (x == ("__debug__" : Str)) = false := by decide)
    (hcd : (x == ("__classdict__" : Str)) = false := by decide) : SS C (.Return (some (.Name x pos')) pos) (sRetV i) := fun st σ H ω N s p => by
  unfold sRetV at p
  cases q : st[i]? with
  | none => rw [q] at p; exact p.elim
  | some o =>
    cases o with
    | none => rw [q] at p; exact p.elim
    | some d =>
      rw [q] at p
      obtain ⟨v, e, r⟩ := s.at_ i d q
      refine ⟨_, ps_ret (pe_var hN hv hd hcd), v, e, ?_⟩
      refine p v σ H (rsw i ω) ⟨fun _ _ h => h, fun a u h e => ⟨h, ?_⟩, fun _ h => h⟩ ⟨by simp [s.len], fun j d' h => ?_, s.ref_⟩ ?_
      · unfold rsw
        rcases e with e | e <;> rw [e]
      · by_cases e1 : i = j
        · subst e1
          have hi : i < st.length := (List.getElem?_eq_some_iff.mp q).1
          rw [List.getElem?_set_self hi] at h
          cases h
        · rw [List.getElem?_set_ne e1] at h
          obtain ⟨v', e', r'⟩ := s.at_ j d' h
          refine ⟨v', e', r'.mv (g := id) ⟨fun _ _ => rfl, fun _ _ h => h, fun a u q h e => ⟨h, ?_⟩, fun a u h e => ⟨h, ?_⟩⟩⟩
          · unfold rsw; rw [e]; simp only; rw [if_neg (fun z => e1 z.symm)]; rfl
          · unfold rsw; rw [e]
      · refine r.mv (g := id) ⟨fun _ _ => rfl, fun _ _ h => h, fun a u q h e => ⟨h, ?_⟩, fun a u h e => ⟨h, ?_⟩⟩
        · unfold rsw; rw [e]; simp only [if_true, id_eq]
        · unfold rsw; rw [e]
def sRetN : M Fl := fun st => .ok (.rt .non) st
def sEx (m : M D) : M Fl := fun st => (m st).bind fun _ s => .ok .nx s
theorem ss_ex {m : M D} (h : SE C e m) (hs : swapsWith e none pos.line C.X.env = pure false := by rfl) : SS C (.Expr e pos) (sEx m) := fun st σ H ω N s p =>
  ⟨_, ps_expr pe_w hs, h.then s p (fun _ _ _ p => p) (fun p => p) fun d s1 p v H1 ω1 t1 sm1 r1 => p _ _ _ t1 sm1⟩
def sIf (t : M Bool) (m n : M Fl) : M Fl := fun st => (t st).bind fun b s => if b = true then m s else n s
theorem ss_if {t : M Bool} {m n : M Fl} {sa sb : List Stmt} (ht : ST C c t) (h : SSs C sa m) (h' : SSs C sb n) : SS C (.If c sa sb pos) (sIf t m n) := fun st σ H ω N s p =>
  ⟨_, ps_if pt_w pss_w pss_w, ht.then (Q := fun c H1 => if c = true then WSs C.X sa N σ H1 else WSs C.X sb N σ H1) s p (fun _ _ _ p => p) (fun p => p) fun d s1 p H1 ω1 t1 sm1 => by
    cases d with
    | true => exact h s1 σ H1 ω1 N sm1 (PostS.pre t1 p)
    | false => exact h' s1 σ H1 ω1 N sm1 (PostS.pre t1 p)⟩
def sAug (i : Nat) (f : List D → Option D) (m : M D) : M Fl := fun st => match st[i]? with
  | some (some (.int k)) => (m st).bind fun d s => (match f [.int k, d] with
    | some r => .ok .nx (s.set i (some r))
    | none => .stuck)
  | _ => .stuck
def fAddI : List D → Option D
  | [.int i, .int j] => some (.int (i + j))
  | _ => none
end
end SV

namespace SV
open PySem PySem.Spec PyProof.Rows L2

structure MvP (P : List Nat → Prop) (H : Hp) (ω : Om) (τ : List Nat → Own) (H' : Hp) (ω' : Om) (τ' : List Nat → Own) (g : List Nat → List Nat) : Prop where
  cl : ∀ p k, P p → P (p ++ [k])
  hom : ∀ p k, P p → g (p ++ [k]) = g p ++ [k]
  tup : TT0 H H'
  own : ∀ a u q, P q → H a = some u → ω a = some (τ q) → H' a = some u ∧ ω' a = some (τ' (g q))
  frz : ∀ a u, H a = some u → ω a = none → H' a = some u ∧ ω' a = none
section
variable {P : List Nat → Prop} {K : PySem.W.Frag} {H H' : Hp} {ω ω' : Om} {τ τ' : List Nat → Own} {g : List Nat → List Nat}
theorem MvP.lstAt (M : MvP P H ω τ H' ω' τ' g) {a : Addr} {u : HO} {o : Bool} {p : List Nat} (hp : P p) (h : H a = some u) (e : ω a = tk o (τ p)) : H' a = some u ∧ ω' a = tk o (τ' (g p)) := by
  cases o with
  | true => exact M.own a u p hp h e
  | false => exact M.frz a u h e
mutual
theorem Rep.mvP (M : MvP P H ω τ H' ω' τ' g) : ∀ {p d v}, P p → Rep K H ω τ p d v → Rep K H' ω' τ' (g p) d v
  | _, _, _, _, .non => .non
  | _, _, _, _, .bl => .bl
  | _, _, _, _, .int => .int
  | _, _, _, _, .str => .str
  | _, _, _, _, .fn => .fn
  | _, _, _, _, .ty => .ty
  | _, _, _, hp, .tup h r => .tup (h.elim (fun h => .inl (M.tup _ _ h)) .inr) (Reps.mvP M (fun k => ⟨M.cl _ k hp, M.hom _ k hp⟩) r)
  | _, _, _, hp, .lst h e r => let z := M.lstAt hp h e; .lst z.1 z.2 (Reps.mvP M (fun k => ⟨M.cl _ k hp, M.hom _ k hp⟩) r)
  | _, _, _, hp, .ro h r => .ro (by
      rcases h with ⟨h, e⟩ | h
      · refine .inl ⟨?_, ?_⟩
        · rcases h with h | ⟨o, h⟩
          · exact .inl (M.frz _ _ h e).1
          · exact .inr ⟨o, (M.frz _ _ h e).1⟩
        · rcases h with h | ⟨o, h⟩
          · exact (M.frz _ _ h e).2
          · exact (M.frz _ _ h e).2
      · exact .inr h) (Reps.mvP M (fun k => ⟨M.cl _ k hp, M.hom _ k hp⟩) r)
  | _, _, _, hp, .dct h l e r => let z := M.lstAt hp h e; .dct z.1 l z.2 (Reps.mvP M (fun k => ⟨M.cl _ k hp, M.hom _ k hp⟩) r)
  | _, _, _, hp, .dz h l e r => .dz (h.to (fun u q => (M.lstAt hp q e).1) M.tup) l (by obtain ⟨bs, h1, h2⟩ := id h; exact (M.lstAt hp h1 e).2) (Reps.mvP M (fun k => ⟨M.cl _ k hp, M.hom _ k hp⟩) r)
  | _, _, _, hp, .ins h l e r => let z := M.lstAt hp h e; .ins z.1 l z.2 (Reps.mvP M (fun k => ⟨M.cl _ k hp, M.hom _ k hp⟩) r)
  | _, _, _, hp, .xc h e h2 e2 r => let z := M.frz _ _ h e; let y := M.frz _ _ h2 e2; .xc z.1 z.2 y.1 y.2 (by
      have z := Rep.mvP M (M.cl _ 0 hp) r
      rw [M.hom _ 0 hp] at z
      exact z)
theorem Reps.mvP (M : MvP P H ω τ H' ω' τ' g) : ∀ {p k ds vs}, (∀ k, P (p ++ [k]) ∧ g (p ++ [k]) = g p ++ [k]) → Reps K H ω τ p k ds vs → Reps K H' ω' τ' (g p) k ds vs
  | _, _, _, _, _, .nil => .nil
  | p, k, _ :: _, _ :: _, hp, .cons h r => .cons (by
      have z := Rep.mvP M (hp k).1 h
      rw [(hp k).2] at z
      exact z) (Reps.mvP M hp r)
end
structure FzP (P : List Nat → Prop) (H : Hp) (ω : Om) (τ : List Nat → Own) (H' : Hp) (ω' : Om) : Prop where
  cl : ∀ p k, P p → P (p ++ [k])
  tup : TT0 H H'
  own : ∀ a u q, P q → H a = some u → ω a = some (τ q) → H' a = some u ∧ ω' a = none
  frz : ∀ a u, H a = some u → ω a = none → H' a = some u ∧ ω' a = none
theorem FzP.lstAt (M : FzP P H ω τ H' ω') {a : Addr} {u : HO} {o : Bool} {p : List Nat} (hp : P p) (h : H a = some u) (e : ω a = tk o (τ p)) : H' a = some u ∧ ω' a = none := by
  cases o with
  | true => exact M.own a u p hp h e
  | false => exact M.frz a u h e
mutual
theorem Rep.fzP (M : FzP P H ω τ H' ω') : ∀ {p q d v}, P p → Rep K H ω τ p d v → Rep K H' ω' τ' q (frz d) v
  | _, _, _, _, _, .non => .non
  | _, _, _, _, _, .bl => .bl
  | _, _, _, _, _, .int => .int
  | _, _, _, _, _, .str => .str
  | _, _, _, _, _, .fn => .fn
  | _, _, _, _, _, .ty => .ty
  | _, _, _, _, hp, .tup h r => .tup (h.elim (fun h => .inl (M.tup _ _ h)) .inr) (Reps.fzP M (fun k => M.cl _ k hp) r)
  | _, _, _, _, hp, .lst h e r => let z := M.lstAt hp h e; .lst (o := false) z.1 z.2 (Reps.fzP M (fun k => M.cl _ k hp) r)
  | _, _, _, _, hp, .ro h r => .ro (by
      rcases h with ⟨h, e⟩ | h
      · refine .inl ⟨?_, ?_⟩
        · rcases h with h | ⟨o, h⟩
          · exact .inl (M.frz _ _ h e).1
          · exact .inr ⟨o, (M.frz _ _ h e).1⟩
        · rcases h with h | ⟨o, h⟩
          · exact (M.frz _ _ h e).2
          · exact (M.frz _ _ h e).2
      · exact .inr h) (Reps.fzP M (fun k => M.cl _ k hp) r)
  | _, _, _, _, hp, .dct h l e r => let z := M.lstAt hp h e; .dct (o := false) z.1 l z.2 (Reps.fzP M (fun k => M.cl _ k hp) r)
  | _, _, _, _, hp, .dz h l e r => .dz (o := false) (h.to (fun u q => (M.lstAt hp q e).1) M.tup) l (by obtain ⟨bs, h1, h2⟩ := id h; exact (M.lstAt hp h1 e).2) (Reps.fzP M (fun k => M.cl _ k hp) r)
  | _, _, _, _, hp, .ins h l e r => let z := M.lstAt hp h e; .ins (o := false) z.1 l z.2 (Reps.fzP M (fun k => M.cl _ k hp) r)
  | _, _, _, _, hp, .xc h e h2 e2 r => let z := M.frz _ _ h e; let y := M.frz _ _ h2 e2; .xc z.1 z.2 y.1 y.2 (Rep.fzP M (M.cl _ 0 hp) r)
theorem Reps.fzP (M : FzP P H ω τ H' ω') : ∀ {p q k j ds vs}, (∀ k, P (p ++ [k])) → Reps K H ω τ p k ds vs → Reps K H' ω' τ' q j (frzL ds) vs
  | _, _, _, _, _, _, _, .nil => .nil
  | _, _, k, _, _, _, hp, .cons h r => .cons (Rep.fzP M (hp k) h) (Reps.fzP M hp r)
end
end

section
variable {C : Ct} {a b c e : Expr} {es : List Expr} {pos : Pos} {x : Str} {H H1 H2 : Hp} {ω ω1 ω2 : Om} {σ : L2.St} {s1 : Stmt} {ss : List Stmt}
def sWhile (t : M Bool) (b : M Fl) : Nat → M Fl
  | 0, _ => .stuck
  | n + 1, st => (t st).bind fun c s => if c = true then ((b s).bind fun f s' => match f with
      | .nx => sWhile t b n s'
      | .ct => sWhile t b n s'
      | .bk => .ok .nx s'
      | .rt d => .ok (.rt d) s') else .ok .nx s
theorem ss_while (k : C.Ok lv) {t : M Bool} {b : M Fl} {sb : List Stmt} (n : Nat) (ht : ST C c t) (hb : SSs C sb b) : SS C (.While c sb [] pos) (sWhile t b n) := fun st σ H ω N s p => by
  refine ⟨_, ps_while k.own pt_w pss_w, fun m σ' H' => ∃ st' ω', Tr H ω H' ω' ∧ C.Sim st' σ' H' ω' ∧ PostS C H ω N (sWhile t b m st'), ⟨n, st, ω, Tr.refl _ _, s, p⟩, ?_⟩
  rintro m σ1 H1 ⟨st1, ω1, t1, sm1, p1⟩
  cases m with
  | zero => exact p1.elim
  | succ m =>
    unfold sWhile at p1
    refine ht.then (P := fun r => PostS C H ω N r) sm1 p1 (fun _ _ _ p => PX.pre t1 p) (fun p => p) fun d s2 p2 H2 ω2 t2 sm2 => ?_
    have t12 := t1.trans t2
    cases d with
    | false => exact p2 σ1 H2 ω2 t12 sm2
    | true =>
      refine ⟨fun σ' H' => ∃ st' ω', Tr H ω H' ω' ∧ C.Sim st' σ' H' ω' ∧ PostS C H ω N (sWhile t b m st'), fun σ' H' h => ⟨m, Nat.lt_succ_self m, h⟩, ?_⟩
      refine hb s2 σ1 H2 ω2 _ sm2 ?_
      simp only [if_true] at p2
      cases q : b s2 with
      | stuck => rw [q] at p2; exact p2
      | exc x w s3 => rw [q] at p2; exact PX.pre t12 p2
      | ok f s3 =>
        rw [q] at p2
        cases f with
        | nx => exact fun σ' H' ω' t' sm' => ⟨s3, ω', t12.trans t', sm', p2⟩
        | ct => exact fun σ' H' ω' t' sm' => ⟨s3, ω', t12.trans t', sm', p2⟩
        | bk => exact fun σ' H' ω' t' sm' => p2 σ' H' ω' (t12.trans t') sm'
        | rt d => exact fun v σ' H' ω' t' sm' r' => p2 v σ' H' ω' (t12.trans t') sm' r'

def WG (X : Cx) (tg : Expr) : TG := fun v σ H Q => ∃ t, PG X tg t ∧ t v σ H Q
theorem pg_w {X : Cx} {tg : Expr} : PG X tg (WG X tg) := ⟨fun pins s σ H v u Q I r ⟨t, hp, ht⟩ => hp.run pins s σ H v u Q I r ht⟩
def WGs (X : Cx) (tg : List Expr) : TGs := fun v σ H Q => ∃ t, PGs X tg t ∧ t v σ H Q
theorem pgs_w {X : Cx} {tg : List Expr} : PGs X tg (WGs X tg) := ⟨fun pins s σ H v u Q I r ⟨t, hp, ht⟩ => hp.run pins s σ H v u Q I r ht⟩
def Chg (vs : List Nat) (σ σ' : L2.St) : Prop := σ'.length = σ.length ∧ ∀ j, j ∉ vs → σ'[j]? = σ[j]?
def SG (C : Ct) (tg : Expr) (vs : List Nat) (g : D → S → Option S) : Prop := ∀ st σ H ω d v Q, C.Sim st σ H ω → frzd d = true → Rep C.X.K H ω .res [] d v →
  (∃ st', g d st = some st' ∧ ∀ σ' ω', Chg vs σ σ' → Tr H ω H ω' → C.Sim st' σ' H ω' → Q σ' H) → WG C.X tg v σ H Q
def SGs (C : Ct) (tg : List Expr) (vs : List Nat) (g : List D → S → Option S) : Prop := ∀ st σ H ω ds us Q, C.Sim st σ H ω → frzdL ds = true → Reps C.X.K H ω .res [] 0 ds us →
  (∃ st', g ds st = some st' ∧ ∀ σ' ω', Chg vs σ σ' → Tr H ω H ω' → C.Sim st' σ' H ω' → Q σ' H) → WGs C.X tg us σ H Q
def gN (i : Nat) : D → S → Option S := fun d st => some (st.set i (some d))
theorem slw_tr {i : Nat} : Tr H ω H (slw i ω) := Tr.slw (Tr.refl H ω)
theorem sg_n (k : C.Ok lv) (i : Nat) {pos : Pos} (hi : C.X.N[i]? = some x := by rfl) (hx : Loc C.X.env.scope x := by first | exact Or.inl rfl | exact Or.inr rfl) (hR : C.R i = false := by rfl)
    (hf : C.X.fn x = true ∨ C.X.env.scope.names.lookup x = some .local := by first | exact .inl rfl | exact .inr rfl) : SG C (.Name x pos) [i] (gN i) := fun st σ H ω d v Q s hd r ⟨st', e, q⟩ => by
  cases e
  exact ⟨_, pg_name k.nd hi hx hf, q _ _ ⟨by simp, fun j hj => List.getElem?_set_ne (fun z => hj (by simp [z]))⟩ slw_tr (s.set hR r)⟩
def gNil : List D → S → Option S := fun ds st => match ds with
  | [] => some st
  | _ => none
def gCons (g : D → S → Option S) (h : List D → S → Option S) : List D → S → Option S := fun ds st => match ds with
  | d :: r => (g d st).bind (h r)
  | [] => none
theorem sgs_nil : SGs C [] [] gNil := fun st σ H ω ds vs Q s hd r ⟨st', e, q⟩ => by
  cases ds with
  | nil => cases e; cases r; exact ⟨_, pgs_nil, rfl, q σ ω ⟨rfl, fun _ _ => rfl⟩ (Tr.refl _ _) s⟩
  | cons _ _ => cases e
theorem sgs_cons {t : Expr} {ts : List Expr} {v1 v2 : List Nat} {g : D → S → Option S} {h : List D → S → Option S} (h1 : SG C t v1 g) (h2 : SGs C ts v2 h)
    (hs : (assignEach (t :: ts) C.X.env).map (·.2) = assign t C.X.env :: (assignEach ts C.X.env).map (·.2) := by rfl) : SGs C (t :: ts) (v1 ++ v2) (gCons g h) := fun st σ H ω ds vs Q s hd r ⟨st', e, q⟩ => by
  cases ds with
  | nil => cases e
  | cons d ds =>
    cases r with
    | cons r1 r2 =>
      simp only [frzdL, Bool.and_eq_true] at hd
      unfold gCons at e
      cases e1 : g d st with
      | none => simp only [e1] at e; cases e
      | some s1 =>
        simp only [e1, Option.bind_some] at e
        refine ⟨_, pgs_cons pg_w pgs_w hs, _, _, rfl, h1 st σ H ω d _ _ s hd.1 (r1.any (fun _ _ h => h) (fun a u h z => ⟨h, z⟩) hd.1) ⟨s1, e1, fun σ' ω' c' t' sm' => ?_⟩⟩
        have hn : ∀ a u, H a = some u → ω a = none → H a = some u ∧ ω' a = none := fun a u h z => ⟨h, ((t'.keep a u h (.inl z)).2).trans z⟩
        refine h2 s1 σ' H ω' ds _ _ sm' hd.2 (Reps.any (fun _ _ h => h) hn hd.2 r2) ⟨st', e, fun σ'' ω'' c'' t'' sm'' => q σ'' ω'' ⟨c''.1.trans c'.1, fun j hj => ?_⟩ (t'.trans t'') sm''⟩
        rw [List.mem_append, not_or] at hj
        exact (c''.2 j hj.2).trans (c'.2 j hj.1)
def gTup (n : Nat) (g : List D → S → Option S) : D → S → Option S := fun d st => match d with
  | .tup ds => if ds.length = n then g ds st else none
  | _ => none
theorem sg_tup (k : C.Ok lv) {ts : List Expr} {kt n : Nat} {vs : List Nat} {g : List D → S → Option S} (h : SGs C ts vs g) (hn : (assignEach ts C.X.env).length = n := by rfl) (hst : (assignEach ts C.X.env).findIdx? (·.1) = none := by rfl) : SG C (.Tuple ts kt pos) vs (gTup n g) := fun st σ H ω d v Q s hd r ⟨st', e, q⟩ => by
  unfold gTup at e
  cases d with
  | tup ds =>
    simp only at e
    split at e
    · rename_i hl
      cases r with
      | tup hT hr => exact ⟨_, pg_tup k.calm pgs_w hn hst, _, _, rfl, hT.sq, by rw [← rep_len hr]; exact hl, h st σ H ω ds _ Q s hd hr ⟨st', e, q⟩⟩
    · cases e
  | _ => cases e

def WI (X : Cx) (tg iter : Expr) : TI := fun σ H R => ∃ w, PI X tg iter w ∧ w σ H R
theorem pi_w {X : Cx} {tg iter : Expr} : PI X tg iter (WI X tg iter) := ⟨fun pins s σ H R I ⟨t, hp, ht⟩ => hp.run pins s σ H R I ht⟩
structure Trn (H : Hp) (ω : Om) (H' : Hp) (ω' : Om) : Prop where
  tup : TT0 H H'
  fr : ∀ a u, H a = some u → ω a = none → H' a = some u ∧ ω' a = none
theorem Tr.n {H H' : Hp} {ω ω' : Om} (t : Tr H ω H' ω') : Trn H ω H' ω' := ⟨t.tup, fun a u h z => ⟨(t.keep a u h (.inl z)).1, ((t.keep a u h (.inl z)).2).trans z⟩⟩
structure ItOk (K : PySem.W.Frag) (J : It) (H0 : Hp) (ω0 : Om) (ys : List D) : Prop where
  go : ∀ H ω i d, Trn H0 ω0 H ω → ys[i]? = some d → J.go i H ∧ ∀ x H', J.yld i H x H' → Ext H H' ∧ frzd d = true ∧ Rep K H' ω .res [] d x
  stop : ∀ H ω, Trn H0 ω0 H ω → J.stop ys.length H
def PostI (C : Ct) (σ : L2.St) (H : Hp) (ω : Om) (R : It → Hp → Prop) : Rs (List D) → Prop
  | .ok ys st' => ∀ J H' ω', Tr H ω H' ω' → C.Sim st' σ H' ω' → ItOk C.X.K J H' ω' ys → R J H'
  | .exc x w st' => PX C H ω x w st'
  | .stuck => False
def SI (C : Ct) (tg iter : Expr) (m : M (List D)) : Prop := ∀ st σ H ω R, C.Sim st σ H ω → PostI C σ H ω R (m st) → WI C.X tg iter σ H R

def forL (g : D → S → Option S) (b : M Fl) : List D → M Fl
  | [], st => .ok .nx st
  | d :: r, st => match g d st with
    | none => .stuck
    | some s => (b s).bind fun f s' => match f with
      | .nx => forL g b r s'
      | .ct => forL g b r s'
      | .bk => .ok .nx s'
      | .rt d => .ok (.rt d) s'
def sFor (g : D → S → Option S) (m : M (List D)) (b : M Fl) : M Fl := fun st => (m st).bind fun ys s => forL g b ys s
theorem ss_for (k : C.Ok lv) {tg iter : Expr} {g : D → S → Option S} {m : M (List D)} {b : M Fl} {sb : List Stmt} {vs : List Nat} (hi : SI C tg iter m) (hg : SG C tg vs g) (hb : SSs C sb b) (hs : ∀ x, foldedSetIterable iter C.X.env x = pure x := by intro _; rfl) : SS C (.For tg iter sb [] pos) (sFor g m b) := fun st σ H ω N s p => by
  refine ⟨_, ps_for k.own k.calm pi_w pg_w pss_w hs, ?_⟩
  refine hi st σ H ω _ s ?_
  unfold sFor at p
  cases q : m st with
  | stuck => rw [q] at p; exact p
  | exc x w s1 => rw [q] at p; exact p
  | ok ys s1 =>
    rw [q] at p
    simp only [bind_ok] at p
    intro J H1 ω1 t1 sm1 J1
    refine ⟨fun i m σ' H' => m = ys.length - i ∧ i ≤ ys.length ∧ ∃ st' ω', Tr H1 ω1 H' ω' ∧ C.Sim st' σ' H' ω' ∧ PostS C H ω N (forL g b (ys.drop i) st'), ⟨_, rfl, Nat.zero_le _, s1, ω1, Tr.refl _ _, sm1, p⟩, ?_⟩
    rintro i m σ2 H2 ⟨rfl, hi', st2, ω2, t2, sm2, p2⟩
    by_cases hlt : i < ys.length
    · have ed : ys.drop i = ys[i] :: ys.drop (i + 1) := List.drop_eq_getElem_cons hlt
      have eg : ys[i]? = some ys[i] := List.getElem?_eq_getElem hlt
      rw [ed] at p2
      unfold forL at p2
      obtain ⟨go, yl⟩ := J1.go H2 ω2 i _ t2.n eg
      refine .inr ⟨go, fun σ' H' => ∃ st' ω', Tr H1 ω1 H' ω' ∧ C.Sim st' σ' H' ω' ∧ PostS C H ω N (forL g b (ys.drop (i + 1)) st'), fun σ' H' h => ⟨_, by omega, rfl, hlt, h⟩, fun x H3 y => ?_⟩
      obtain ⟨ex, hf, r3⟩ := yl x H3 y
      cases q3 : g ys[i] st2 with
      | none => rw [q3] at p2; exact p2.elim
      | some s3 =>
        rw [q3] at p2
        simp only at p2
        refine hg st2 σ2 H3 ω2 _ x _ (sm2.ext ex) hf r3 ⟨s3, q3, fun σ4 ω4 _ t4 sm4 => ?_⟩
        have t14 : Tr H1 ω1 H3 ω4 := (t2.trans ex.tr).trans t4
        have t04 := t1.trans t14
        refine hb s3 σ4 H3 ω4 _ sm4 ?_
        cases q5 : b s3 with
        | stuck => rw [q5] at p2; exact p2
        | exc x w s5 => rw [q5] at p2; exact PX.pre t04 p2
        | ok f s5 =>
          rw [q5] at p2
          cases f with
          | nx => exact fun σ' H' ω' t' sm' => ⟨s5, ω', t14.trans t', sm', p2⟩
          | ct => exact fun σ' H' ω' t' sm' => ⟨s5, ω', t14.trans t', sm', p2⟩
          | bk => exact fun σ' H' ω' t' sm' => p2 σ' H' ω' (t04.trans t') sm'
          | rt d => exact fun v σ' H' ω' t' sm' r' => p2 v σ' H' ω' (t04.trans t') sm' r'
    · have e : i = ys.length := by omega
      subst e
      rw [List.drop_length] at p2
      exact .inl ⟨J1.stop H2 ω2 t2.n, p2 σ2 H2 ω2 (t1.trans t2) sm2⟩

def irange (lo : Int) (n : Nat) : List D := (List.range n).map fun (i : Nat) => .int (lo + i)
theorem itok_range {K : PySem.W.Frag} {lo : Int} {n : Nat} : ItOk K (Itr lo n) H ω (irange lo n) := by
  refine ⟨fun H1 ω1 i d t h => ?_, fun H1 ω1 t => ?_⟩
  · unfold irange at h
    rw [List.getElem?_map] at h
    by_cases hi : i < n
    · rw [List.getElem?_range hi] at h
      cases h
      refine ⟨hi, fun x H' y => ?_⟩
      obtain ⟨rfl, rfl⟩ := y
      exact ⟨Ext.refl _, rfl, .int⟩
    · rw [List.getElem?_eq_none (by simpa using hi)] at h
      cases h
  · show n ≤ (irange lo n).length
    unfold irange
    simp
def iRng (ms : M (List Opd)) : M (List D) := fun st => (ms st).bind fun os s => match getL s os with
  | some [.int j] => if j.natAbs < 4611686018427387904 then .ok (irange 0 j.toNat) s else .stuck
  | some [.int i, .int j] => if i.natAbs < 4611686018427387904 ∧ j.natAbs < 4611686018427387904 then .ok (irange i (j - i).toNat) s else .stuck
  | _ => .stuck
theorem si_range1 {tg : Expr} {m : M Opd} {p pos : Pos} (hg : Gl C.X "range" := by rfl) (hm : C.X.mg "range" = none) (ha : SO C a m) (hs : starEach [a] C.X.env = [(false, eval a C.X.env)] := by rfl) : SI C tg (.Call (.Name "range" p) [a] [] pos) (iRng (aCons m aNil)) := fun st σ H ω R s q => by
  refine ⟨_, pi_range1 hg hm (pa_wl ⟨hs, trivial⟩) hs, ?_⟩
  refine sa_cons ha sa_nil 0 st σ H ω (fun vs H1 => ∃ j : Int, vs = [.int j] ∧ -(2 ^ 62) ≤ j ∧ j < 2 ^ 62 ∧ R (Itr 0 j.toNat) H1) s ?_
  unfold iRng at q
  cases z : aCons m aNil st with
  | stuck => rw [z] at q; exact q
  | exc x w s1 => rw [z] at q; exact q
  | ok os s1 =>
    rw [z] at q
    simp only [bind_ok] at q
    intro vs H1 ω1 t1 sm1 r1
    have hl : os.length = 1 := by
      unfold aCons aNil at z
      cases y : m st with
      | stuck => rw [y] at z; cases z
      | exc x w s1 => rw [y] at z; cases z
      | ok o s2 => rw [y] at z; cases z; rfl
    match os, hl with
    | [o], _ =>
      cases e1 : getL s1 [o] with
      | none => rw [e1] at q; exact q.elim
      | some ds =>
        rw [e1] at q
        have hv := r1.vws sm1 e1
        split at q
        · rename_i j e
          cases e
          split at q
          · rename_i hz
            obtain ⟨v, _, rfl, h1, rfl⟩ := hv
            exact ⟨j, by rw [h1.int], by omega, by omega, q _ H1 ω1 t1 sm1 itok_range⟩
          · exact q.elim
        · rename_i i j e
          cases e
          obtain ⟨v, _, rfl, h1, w, _, rfl, _⟩ := hv
          cases r1 with
          | v _ r => cases r
          | s _ r => cases r
        · exact q.elim
end
end SV

namespace SV
open PySem PySem.Spec PyProof.Rows L2 RZ
section
variable {C : Ct} {a b c e : Expr} {es : List Expr} {pos : Pos} {x : Str} {H H1 H2 : Hp} {ω ω1 ω2 : Om} {σ : L2.St}
theorem Tr.fr (t : Tr H ω H1 ω1) : ∀ a u, H a = some u → ω a = none → H1 a = some u ∧ ω1 a = none := fun a u h z => ⟨(t.keep a u h (.inl z)).1, ((t.keep a u h (.inl z)).2).trans z⟩
theorem Rep.stay {K : PySem.W.Frag} {τ τ' : List Nat → Own} {p q : List Nat} {d : D} {v : V} (t : Trn H ω H1 ω1) (hf : frzd d = true) (r : Rep K H ω τ p d v) : Rep K H1 ω1 τ' q d v := r.any t.tup t.fr hf
theorem itok_list {K : PySem.W.Frag} {d : D} {a : Addr} {ys : List D} (r : Rep K H ω .res [] d (.ref a)) (hf : frzd d = true) (hl : lstOf d = some ys) : ItOk K (Itl K a) H ω ys := by
  have key : ∀ H1 ω1, Trn H ω H1 ω1 → ∃ vs, SqL K H1 a vs ∧ Reps K H1 ω1 .res [] 0 ys vs := fun H1 ω1 t => by
    have r1 : Rep K H1 ω1 .res [] d (.ref a) := r.stay t hf
    cases r1 with
    | lst h e2 rr => cases hl; exact ⟨_, .of h, rr⟩
    | ro h rr => cases hl; exact ⟨_, h.sq, rr⟩
    | _ => cases hl
  have hys : frzdL ys = true := by
    cases d <;> simp only [lstOf, Option.some.injEq, reduceCtorEq] at hl
    · subst hl
      simp only [frzd, Bool.and_eq_true] at hf
      exact hf.2
    · subst hl; exact hf
  have fget : ∀ {ds : List D} {i : Nat} {d : D}, frzdL ds = true → ds[i]? = some d → frzd d = true := fun {ds} => by
    induction ds with
    | nil => intro i d _ e; simp at e
    | cons c r ih =>
      intro i d hz e
      simp only [frzdL, Bool.and_eq_true] at hz
      cases i with
      | zero => simp only [List.getElem?_cons_zero, Option.some.injEq] at e; rw [← e]; exact hz.1
      | succ i => exact ih hz.2 (by simpa using e)
  refine ⟨fun H1 ω1 i dd t h => ?_, fun H1 ω1 t => ?_⟩
  · obtain ⟨vs, hS, rr⟩ := key H1 ω1 t
    obtain ⟨v, hv, rv⟩ := rr.nth h
    refine ⟨⟨vs, v, hS, hv⟩, fun x H' y => ?_⟩
    obtain ⟨rfl, y⟩ := y
    have e := (y vs hS).symm.trans hv
    cases e
    exact ⟨Ext.refl _, fget hys h, rv.any (fun _ _ h => h) (fun a u h z => ⟨h, z⟩) (fget hys h)⟩
  · obtain ⟨vs, hS, rr⟩ := key H1 ω1 t
    exact ⟨vs, hS, by rw [rep_len rr]; exact Nat.le_refl _⟩
theorem frzdL_get : ∀ {ds : List D} {i : Nat} {d : D}, frzdL ds = true → ds[i]? = some d → frzd d = true
  | [], _, _, _, e => by simp at e
  | c :: r, 0, d, hz, e => by
    simp only [frzdL, Bool.and_eq_true] at hz
    simp only [List.getElem?_cons_zero, Option.some.injEq] at e
    rw [← e]
    exact hz.1
  | c :: r, i + 1, d, hz, e => by
    simp only [frzdL, Bool.and_eq_true] at hz
    exact frzdL_get hz.2 (by simpa using e)
theorem itok_tup {K : PySem.W.Frag} {a : Addr} {ys : List D} (r : Rep K H ω .res [] (.tup ys) (.ref a)) (hf : frzdL ys = true) : ItOk K (Itt K a) H ω ys := by
  have key : ∀ H1 ω1, Trn H ω H1 ω1 → ∃ vs, SqT K H1 a vs ∧ Reps K H1 ω1 .res [] 0 ys vs := fun H1 ω1 t => by
    have r1 : Rep K H1 ω1 .res [] (.tup ys) (.ref a) := r.stay t hf
    cases r1 with
    | tup h r => exact ⟨_, h.sq, r⟩
  refine ⟨fun H1 ω1 i dd t h => ?_, fun H1 ω1 t => ?_⟩
  · obtain ⟨vs, hS, rr⟩ := key H1 ω1 t
    obtain ⟨v, hv, rv⟩ := rr.nth h
    refine ⟨⟨vs, v, hS, hv⟩, fun x H' y => ?_⟩
    obtain ⟨rfl, y⟩ := y
    have e := (y vs hS).symm.trans hv
    cases e
    exact ⟨Ext.refl _, frzdL_get hf h, rv.any (fun _ _ h => h) (fun a u h z => ⟨h, z⟩) (frzdL_get hf h)⟩
  · obtain ⟨vs, hS, rr⟩ := key H1 ω1 t
    exact ⟨vs, hS, by rw [rep_len rr]; exact Nat.le_refl _⟩
def signs (z : Str) : List D := z.cps.toList.map fun c => .str ⟨#[c]⟩
theorem itok_str {K : PySem.W.Frag} {z : Str} : ItOk K (Its z) H ω (signs z) := by
  refine ⟨fun H1 ω1 i dd t h => ?_, fun H1 ω1 t => ?_⟩
  · unfold signs at h
    rw [List.getElem?_map] at h
    cases q : z.cps.toList[i]? with
    | none => rw [q] at h; cases h
    | some c =>
      rw [q] at h
      cases h
      have q' : z.cps[i]? = some c := by simpa using q
      refine ⟨(Array.getElem?_eq_some_iff.mp q').1, fun x H' y => ?_⟩
      obtain ⟨rfl, c', e, rfl⟩ := y
      rw [q'] at e
      cases e
      exact ⟨Ext.refl _, rfl, .str⟩
  · show z.cps.size ≤ (signs z).length
    unfold signs
    simp
theorem OReps.give1 {K : PySem.W.Frag} {R : Nat → Bool} {σ0 : L2.St} {st : S} {n : Nat} {o : Opd} {os : List Opd} {vs : List V} {d : D} (s : Sim K R σ0 st σ H ω) (r : OReps K H ω σ n (o :: os) vs) (h : getO st o = some d) (ho : okO o d = true) :
    ∃ v us, vs = v :: us ∧ Rep K H (fzw ω) .res [] (frz d) v := by
  obtain ⟨v, us, e, r1, r2⟩ := r.get s h
  refine ⟨v, us, e, ?_⟩
  cases o with
  | v _ => exact Rep.give r1
  | s _ => exact Rep.keepF ho r1
def seqD : D → Option (List D)
  | .lst _ xs => some xs
  | .ro xs => some xs
  | .tup xs => some xs
  | .str z => some (signs z)
  | _ => none
def iSeq (m : M Opd) : M (List D) := fun st => (m st).bind fun o s => match getO s o with
  | some d => if okO o d = true then (match seqD (frz d) with
      | some ys => .ok ys s
      | none => .stuck) else .stuck
  | none => .stuck
theorem si_seq {tg : Expr} {m : M Opd} (h : SO C e m) : SI C tg e (iSeq m) := fun st σ H ω R s p => by
  unfold iSeq at p
  cases q : m st with
  | stuck => rw [q] at p; exact p.elim
  | exc x w s1 =>
    rw [q] at p
    refine ⟨_, pi_list pe_w, ?_⟩
    refine h st σ H ω _ s ?_
    rw [q]
    exact p
  | ok o s1 =>
    rw [q] at p
    simp only [bind_ok] at p
    cases e1 : getO s1 o with
    | none => rw [e1] at p; exact p.elim
    | some d =>
      rw [e1] at p
      by_cases ho : okO o d = true
      · simp only [ho, if_true] at p
        have come : ∀ {Q : VK}, (∀ v H1 ω1, Tr H ω H1 ω1 → C.Sim s1 σ H1 ω1 → Rep C.X.K H1 ω1 .res [] (frz d) v → Q v H1) → WE C.X e σ H Q := fun {Q} k => by
          refine h.then (β := Opd) (f := fun o s => .ok o s) (P := fun r => r = .ok o s1) s (by rw [q]; rfl) (fun _ _ _ z => nomatch z) (fun z => nomatch z) fun o' s1' z v H1 ω1 t1 sm1 r1 => ?_
          cases z
          obtain ⟨v', us, ee, r2⟩ := r1.give1 sm1 e1 ho
          cases ee
          exact k v H1 _ t1.fzw sm1.fzw r2
        have hf : frzd (frz d) = true := frzd_frz d
        generalize frz d = d' at p come hf
        cases d' with
        | lst o' ys =>
          simp only [seqD] at p
          refine ⟨_, pi_list pe_w, ?_⟩
          refine come fun v H1 ω1 t1 sm1 r2 => ?_
          cases r2 with
          | lst h1 h2 h3 => exact ⟨_, rfl, ⟨_, .of h1⟩, p _ H1 _ t1 sm1 (itok_list (.lst h1 h2 h3) hf rfl)⟩
        | ro ys =>
          simp only [seqD] at p
          refine ⟨_, pi_list pe_w, ?_⟩
          refine come fun v H1 ω1 t1 sm1 r2 => ?_
          cases r2 with
          | ro h1 h3 => exact ⟨_, rfl, ⟨_, h1.sq⟩, p _ H1 _ t1 sm1 (itok_list (.ro h1 h3) hf rfl)⟩
        | tup ys =>
          simp only [seqD] at p
          refine ⟨_, pi_tup pe_w, ?_⟩
          refine come fun v H1 ω1 t1 sm1 r2 => ?_
          cases r2 with
          | tup h1 h3 => exact ⟨_, rfl, ⟨_, h1.sq⟩, p _ H1 _ t1 sm1 (itok_tup (.tup h1 h3) hf)⟩
        | str z =>
          simp only [seqD] at p
          refine ⟨_, pi_str pe_w, ?_⟩
          refine come fun v H1 ω1 t1 sm1 r2 => ?_
          cases r2
          exact ⟨_, rfl, p _ H1 _ t1 sm1 itok_str⟩
        | _ => simp only [seqD] at p; exact p.elim
      · simp only [ho, if_false] at p
        exact p.elim

def enumL : Nat → List D → List D
  | _, [] => []
  | i, d :: r => .tup [.int i, d] :: enumL (i + 1) r
theorem enumL_get : ∀ {ds : List D} {k i : Nat}, (enumL k ds)[i]? = (ds[i]?).map fun d => .tup [.int ((k + i : Nat) : Int), d]
  | [], _, _ => rfl
  | d :: r, k, 0 => rfl
  | d :: r, k, i + 1 => by
    show (enumL (k + 1) r)[i]? = _
    rw [enumL_get, List.getElem?_cons_succ, show k + 1 + i = k + (i + 1) by omega]
theorem enumL_len : ∀ {ds : List D} {k : Nat}, (enumL k ds).length = ds.length
  | [], _ => rfl
  | d :: r, k => congrArg (· + 1) enumL_len
def iEnum (m : M Opd) : M (List D) := fun st => (m st).bind fun o s => match getO s o with
  | some d => if okO o d = true then (match lstOf (frz d) with
      | some ys => .ok (enumL 0 ys) s
      | none => .stuck) else .stuck
  | none => .stuck
def zipL : List D → List D → List D
  | x :: xs, y :: ys => .tup [x, y] :: zipL xs ys
  | _, _ => []
theorem zipL_get : ∀ {xs ys : List D} {i : Nat} {d : D}, (zipL xs ys)[i]? = some d → ∃ x y, xs[i]? = some x ∧ ys[i]? = some y ∧ d = .tup [x, y]
  | [], _, _, _, h => by simp [zipL] at h
  | _ :: _, [], _, _, h => by simp [zipL] at h
  | x :: xs, y :: ys, 0, d, h => by
    simp only [zipL, List.getElem?_cons_zero, Option.some.injEq] at h
    exact ⟨x, y, rfl, rfl, h.symm⟩
  | x :: xs, y :: ys, i + 1, d, h => by
    simp only [zipL, List.getElem?_cons_succ] at h ⊢
    exact zipL_get h
theorem zipL_len : ∀ {xs ys : List D}, (zipL xs ys).length = min xs.length ys.length
  | [], _ => by simp [zipL]
  | _ :: _, [] => by simp [zipL]
  | x :: xs, y :: ys => by
    simp only [zipL, List.length_cons, zipL_len]
    omega
theorem itok_zipL {K : PySem.W.Frag} {d d' : D} {a b : Addr} {xs ys : List D} (r : Rep K H ω .res [] d (.ref a)) (hf : frzd d = true) (hl : lstOf d = some xs) (r' : Rep K H ω .res [] d' (.ref b)) (hf' : frzd d' = true) (hl' : lstOf d' = some ys) : ItOk K (Itz K a b) H ω (zipL xs ys) := by
  have I := itok_list r hf hl
  have J := itok_list r' hf' hl'
  refine ⟨fun H1 ω1 i dd t h => ?_, fun H1 ω1 t => ?_⟩
  · obtain ⟨x, y, hx, hy, rfl⟩ := zipL_get h
    obtain ⟨⟨vs, v, hS, hv⟩, yl⟩ := I.go H1 ω1 i x t hx
    obtain ⟨⟨ws, w, hS', hw⟩, yl'⟩ := J.go H1 ω1 i y t hy
    refine ⟨⟨vs, ws, v, w, hS, hS', hv, hw⟩, fun z H' q => ?_⟩
    obtain ⟨T, x', y', rfl, hT, rfl, h1, h2⟩ := q
    obtain ⟨_, hc, rc⟩ := yl x' H1 ⟨rfl, h1⟩
    obtain ⟨_, hc', rc'⟩ := yl' y' H1 ⟨rfl, h2⟩
    exact ⟨Ext.new hT, by simp [frzd, frzdL, hc, hc'], .tup (.inl upd_same) (.cons (rc.any (fun _ _ h => Ext.new hT _ _ h) (fun a u h z => ⟨Ext.new hT _ _ h, z⟩) hc) (.cons (rc'.any (fun _ _ h => Ext.new hT _ _ h) (fun a u h z => ⟨Ext.new hT _ _ h, z⟩) hc') .nil))⟩
  · have r1 : Rep K H1 ω1 .res [] d (.ref a) := r.stay t hf
    have r2 : Rep K H1 ω1 .res [] d' (.ref b) := r'.stay t hf'
    obtain ⟨_, vs, e1, hS, _, l1⟩ := Vw.lst ⟨_, _, _, r1⟩ hl
    obtain ⟨_, ws, e2, hS', _, l2⟩ := Vw.lst ⟨_, _, _, r2⟩ hl'
    cases e1
    cases e2
    refine ⟨vs, ws, hS, hS', ?_⟩
    rw [zipL_len]
    omega
theorem itok_zipT {K : PySem.W.Frag} {a b : Addr} {xs ys : List D} (r : Rep K H ω .res [] (.tup xs) (.ref a)) (hf : frzdL xs = true) (r' : Rep K H ω .res [] (.tup ys) (.ref b)) (hf' : frzdL ys = true) : ItOk K (ItzT K a b) H ω (zipL xs ys) := by
  have I := itok_tup r hf
  have J := itok_tup r' hf'
  refine ⟨fun H1 ω1 i dd t h => ?_, fun H1 ω1 t => ?_⟩
  · obtain ⟨x, y, hx, hy, rfl⟩ := zipL_get h
    obtain ⟨⟨vs, v, hS, hv⟩, yl⟩ := I.go H1 ω1 i x t hx
    obtain ⟨⟨ws, w, hS', hw⟩, yl'⟩ := J.go H1 ω1 i y t hy
    refine ⟨⟨vs, ws, v, w, hS, hS', hv, hw⟩, fun z H' q => ?_⟩
    obtain ⟨T, x', y', rfl, hT, rfl, h1, h2⟩ := q
    obtain ⟨_, hc, rc⟩ := yl x' H1 ⟨rfl, h1⟩
    obtain ⟨_, hc', rc'⟩ := yl' y' H1 ⟨rfl, h2⟩
    exact ⟨Ext.new hT, by simp [frzd, frzdL, hc, hc'], .tup (.inl upd_same) (.cons (rc.any (fun _ _ h => Ext.new hT _ _ h) (fun a u h z => ⟨Ext.new hT _ _ h, z⟩) hc) (.cons (rc'.any (fun _ _ h => Ext.new hT _ _ h) (fun a u h z => ⟨Ext.new hT _ _ h, z⟩) hc') .nil))⟩
  · have r1 : Rep K H1 ω1 .res [] (.tup xs) (.ref a) := r.stay t hf
    have r2 : Rep K H1 ω1 .res [] (.tup ys) (.ref b) := r'.stay t hf'
    cases r1 with
    | tup h1 h3 => cases r2 with
      | tup h1' h3' =>
        refine ⟨_, _, h1.sq, h1'.sq, ?_⟩
        rw [zipL_len, rep_len h3, rep_len h3']
        omega
def zipD : D → D → Option (List D)
  | .tup xs, .tup ys => some (zipL xs ys)
  | d, d' => match lstOf d, lstOf d' with
    | some xs, some ys => some (zipL xs ys)
    | _, _ => none
def iZip (ma mb : M Opd) : M (List D) := fun st => (aCons ma (aCons mb aNil) st).bind fun os s => match os with
  | [oa, ob] => (match getO s oa, getO s ob with
    | some d, some d' => if okO oa d = true ∧ okO ob d' = true then (match zipD (frz d) (frz d') with
        | some ys => .ok ys s
        | none => .stuck) else .stuck
    | _, _ => .stuck)
  | _ => .stuck
theorem si_zip {ma mb : M Opd} {elts : List Expr} {kk : Nat} {tpos p pos : Pos} (hg : Gl C.X "zip" := by rfl) (hm : C.X.mg "zip" = none) (ha : SO C a ma) (hb : SO C b mb)
    (hs : starEach [a, b] C.X.env = (false, eval a C.X.env) :: starEach [b] C.X.env := by rfl) (hs2 : starEach [b] C.X.env = [(false, eval b C.X.env)] := by rfl) (hpl : (backTo pos (starEach [b] C.X.env)).any (·.1) = false := by rfl) : SI C (.Tuple elts kk tpos) (.Call (.Name "zip" p) [a, b] [] pos) (SV.iZip ma mb) := fun st σ H ω R s q => by
  refine ⟨_, pi_zipA hg hm (pa_wl ⟨hs, hs2, trivial⟩) hs hpl, ?_⟩
  refine sa_cons ha (sa_cons hb sa_nil) 0 st σ H ω (fun vs H1 => ∃ a b xs ys, vs = [.ref a, .ref b] ∧ ((SqL C.X.K H1 a xs ∧ SqL C.X.K H1 b ys ∧ R (Itz C.X.K a b) H1) ∨ (SqT C.X.K H1 a xs ∧ SqT C.X.K H1 b ys ∧ R (ItzT C.X.K a b) H1))) s ?_
  unfold SV.iZip at q
  cases z : aCons ma (aCons mb aNil) st with
  | stuck => rw [z] at q; exact q
  | exc x w s1 => rw [z] at q; exact q
  | ok os s1 =>
    rw [z] at q
    simp only [bind_ok] at q
    intro vs H1 ω1 t1 sm1 r1
    match os, q, r1 with
    | [oa, ob], q, r1 =>
      simp only at q
      cases e1 : getO s1 oa with
      | none => rw [e1] at q; exact q.elim
      | some d =>
        cases e2 : getO s1 ob with
        | none => rw [e1, e2] at q; exact q.elim
        | some d' =>
          simp only [e1, e2] at q
          by_cases ho : okO oa d = true ∧ okO ob d' = true
          · rw [if_pos ho] at q
            obtain ⟨v, us, rfl, ra, r2⟩ := r1.get sm1 e1
            obtain ⟨w, us2, rfl, rb, r3⟩ := r2.get sm1 e2
            cases r3
            have ra' : Rep C.X.K H1 (fzw ω1) .res [] (frz d) v := by
              cases oa with
              | v _ => exact Rep.give ra
              | s _ => exact Rep.keepF ho.1 ra
            have rb' : Rep C.X.K H1 (fzw ω1) .res [] (frz d') w := by
              cases ob with
              | v _ => exact Rep.give rb
              | s _ => exact Rep.keepF ho.2 rb
            cases e3 : zipD (frz d) (frz d') with
            | none => simp only [e3] at q; exact q.elim
            | some ys =>
              simp only [e3] at q
              have hf := frzd_frz d
              have hf' := frzd_frz d'
              generalize frz d = x1 at ra' e3 hf
              generalize frz d' = x2 at rb' e3 hf'
              unfold zipD at e3
              split at e3
              · cases e3
                cases ra' with
                | tup h1 h3 => cases rb' with
                  | tup h1' h3' => exact ⟨_, _, _, _, rfl, .inr ⟨h1.sq, h1'.sq, q _ H1 _ t1.fzw sm1.fzw (itok_zipT (.tup h1 h3) hf (.tup h1' h3') hf')⟩⟩
              · cases l1 : lstOf x1 with
                | none => rw [l1] at e3; cases e3
                | some xs =>
                  cases l2 : lstOf x2 with
                  | none => rw [l1, l2] at e3; cases e3
                  | some ys =>
                    rw [l1, l2] at e3
                    cases e3
                    obtain ⟨a, vs, rfl, hS, _, _⟩ := Vw.lst ⟨_, _, _, ra'⟩ l1
                    obtain ⟨b, ws, rfl, hS', _, _⟩ := Vw.lst ⟨_, _, _, rb'⟩ l2
                    exact ⟨_, _, _, _, rfl, .inl ⟨hS, hS', q _ H1 _ t1.fzw sm1.fzw (itok_zipL ra' hf l1 rb' hf' l2)⟩⟩
          · rw [if_neg ho] at q
            exact q.elim
    | [], q, _ => exact q.elim
    | [_], q, _ => exact q.elim
    | _ :: _ :: _ :: _, q, _ => exact q.elim
end
end SV

namespace SV
open PySem PySem.Spec PyProof.Rows L2
def wipeS (st : S) : List Nat → S
  | [] => st
  | v :: vs => (wipeS st vs).set v none
theorem wipeS_len {st : S} : ∀ {vs : List Nat}, (wipeS st vs).length = st.length
  | [] => rfl
  | v :: vs => by unfold wipeS; rw [List.length_set, wipeS_len]
theorem wipeS_some {st : S} {i : Nat} {x : D} : ∀ {vs : List Nat}, (wipeS st vs)[i]? = some (some x) → st[i]? = some (some x) ∧ i ∉ vs
  | [], h => ⟨h, by simp⟩
  | v :: vs, h => by
    unfold wipeS at h
    by_cases hi : v = i
    · subst hi
      by_cases hv : v < (wipeS st vs).length
      · rw [List.getElem?_set_self hv] at h; cases h
      · rw [List.getElem?_eq_none (by simpa using hv)] at h; cases h
    · rw [List.getElem?_set_ne hi] at h
      obtain ⟨h1, h2⟩ := wipeS_some h
      exact ⟨h1, by simp only [List.mem_cons, not_or]; exact ⟨fun e => hi e.symm, h2⟩⟩
theorem wipe_at {σ : L2.St} {i : Nat} : ∀ {vs : List Nat}, i ∉ vs → (wipe σ vs)[i]? = σ[i]?
  | [], _ => rfl
  | v :: vs, h => by
    simp only [List.mem_cons, not_or] at h
    unfold wipe
    rw [List.getElem?_set_ne (fun z => h.1 z.symm)]
    exact wipe_at h.2
theorem wipe_eq {σ σ' : L2.St} {vs : List Nat} (hl : σ'.length = σ.length) (h : ∀ j, j ∉ vs → σ'[j]? = σ[j]?) : wipe σ' vs = wipe σ vs := by
  apply List.ext_getElem?
  intro j
  by_cases hj : j ∈ vs
  · have key : ∀ (τ : L2.St) (ws : List Nat), j ∈ ws → (wipe τ ws)[j]? = if j < τ.length then some none else none := by
      intro τ ws
      induction ws with
      | nil => intro h; cases h
      | cons w ws ih =>
        intro h
        unfold wipe
        by_cases e : w = j
        · subst e
          by_cases hw : w < τ.length
          · rw [if_pos hw, List.getElem?_set_self (by rw [wipe_length]; exact hw)]
          · rw [if_neg hw, List.getElem?_eq_none (by rw [List.length_set, wipe_length]; omega)]
        · rw [List.getElem?_set_ne e]
          have h' : j ∈ ws := by
            rcases List.mem_cons.mp h with z | z
            · exact absurd z.symm e
            · exact z
          exact ih h'
    rw [key σ' vs hj, key σ vs hj, hl]
  · rw [wipe_at hj, wipe_at hj]
    exact h j hj
section
variable {K : PySem.W.Frag} {R : Nat → Bool} {σ0 σ : L2.St} {st : S} {H : Hp} {ω : Om}
theorem Sim.wipe {vs : List Nat} (s : Sim K R σ0 st σ H ω) (hR : ∀ v ∈ vs, R v = false) : Sim K R σ0 (wipeS st vs) (L2.wipe σ vs) H ω := by
  refine ⟨by rw [wipeS_len, wipe_length, s.len], fun i d h => ?_, fun i hi => ?_⟩
  · obtain ⟨h1, h2⟩ := wipeS_some h
    obtain ⟨v, e, r⟩ := s.at_ i d h1
    exact ⟨v, by rw [wipe_at h2]; exact e, r⟩
  · have : i ∉ vs := fun z => by rw [hR i z] at hi; cases hi
    rw [wipe_at this]
    exact s.ref_ i hi
theorem Sim.unwipe {vs : List Nat} (s : Sim K R σ0 st (L2.wipe σ vs) H ω) (hR : ∀ v ∈ vs, R v = false) : Sim K R σ0 st σ H ω := by
  refine ⟨by rw [s.len, wipe_length], fun i d h => ?_, fun i hi => ?_⟩
  · obtain ⟨v, ev, r⟩ := s.at_ i d h
    exact ⟨v, (wipe_some ev).1, r⟩
  · have h2 : i ∉ vs := fun z => by rw [hR i z] at hi; cases hi
    rw [← wipe_at (σ := σ) h2]
    exact s.ref_ i hi
end
def Rs.map {α β : Type} (f : α → β) (r : Rs α) : Rs β := r.bind fun a s => .ok (f a) s
def lcL (vs : List Nat) (g : D → S → Option S) (t : M Bool) (m : M D) : List D → S → Rs (List D)
  | [], st => .ok [] st
  | y :: ys, st => match g y st with
    | none => .stuck
    | some s => match t s with
      | .ok true s1 => (match m s1 with
        | .ok d s2 => (lcL vs g t m ys (wipeS s2 vs)).map (d :: ·)
        | _ => .stuck)
      | .ok false s1 => lcL vs g t m ys (wipeS s1 vs)
      | _ => .stuck
theorem lcL_nil {vs : List Nat} {g : D → S → Option S} {t : M Bool} {m : M D} {st : S} : lcL vs g t m [] st = .ok [] st := rfl
theorem lcL_cons {vs : List Nat} {g : D → S → Option S} {t : M Bool} {m : M D} {y : D} {ys : List D} {st : S} : lcL vs g t m (y :: ys) st = match g y st with
    | none => .stuck
    | some s => match t s with
      | .ok true s1 => (match m s1 with
        | .ok d s2 => (lcL vs g t m ys (wipeS s2 vs)).map (d :: ·)
        | _ => .stuck)
      | .ok false s1 => lcL vs g t m ys (wipeS s1 vs)
      | _ => .stuck := rfl
def eLc (vs : List Nat) (g : D → S → Option S) (i : M (List D)) (t : M Bool) (m : M D) : M D := fun st => (i st).bind fun ys s => if ys.length ≤ 100000 then (lcL vs g t m ys (wipeS s vs)).bind fun ds s' => .ok (.lst true ds) s' else .stuck
abbrev Ct.blk (C : Ct) (scope : Scope) (s : Shared) (H : Hp) (c : Addr) (cl : List (Str × Addr)) (fp : List Addr) : Ct := ⟨C.X.blk s H scope (compEnvC scope cl c C.X.env) fp, fun _ _ _ _ => False, C.R, C.σ0⟩
theorem Ct.Ok.blk {C : Ct} (k : C.Ok lv) {scope : Scope} {s : Shared} {H : Hp} {c : Addr} {cl : List (Str × Addr)} {fp : List Addr} : (C.blk scope s H c cl fp).Ok lv := ⟨k.room, takes0, k.calm, PassesOwn.never, k.units, k.nd⟩
def STs (C : Ct) (ifs : List Expr) (m : M Bool) : Prop := ∀ st σ H ω Q, C.Sim st σ H ω → PostT C σ H ω Q (m st) → ∃ t, PTs C.X ifs t ∧ t σ H Q
def tYesM : M Bool := fun st => .ok true st
theorem sts_nil {C : Ct} : STs C [] tYesM := fun st σ H ω Q s p => ⟨_, pts_nil, p H ω (Tr.refl _ _) s⟩
theorem sts_one {C : Ct} {c : Expr} {m : M Bool} (h : ST C c m) : STs C [c] m := fun st σ H ω Q s p => ⟨_, pts_one pt_w, h st σ H ω Q s p⟩
section
variable {C : Ct} {elt tg iter e : Expr} {ifs : List Expr} {scope : Scope} {own : List (Str × Nat)} {pos : Pos} {H H1 H2 : Hp} {ω ω1 ω2 : Om} {σ : L2.St}
abbrev tgAll (C : Ct) (scope : Scope) (tg : Expr) : TG := fun v σ H Q => ∀ (s : Shared) (H0 : Hp) (c : Addr) (cl : List (Str × Addr)) (fp : List Addr), WG (C.blk scope s H0 c cl fp).X tg v σ H Q
abbrev ttAll (C : Ct) (scope : Scope) (ifs : List Expr) : TT := fun σ H Q => ∀ (s : Shared) (H0 : Hp) (c : Addr) (cl : List (Str × Addr)) (fp : List Addr), ∃ t, PTs (C.blk scope s H0 c cl fp).X ifs t ∧ t σ H Q
abbrev teAll (C : Ct) (scope : Scope) (elt : Expr) : TE := fun σ H Q => ∀ (s : Shared) (H0 : Hp) (c : Addr) (cl : List (Str × Addr)) (fp : List Addr), WE (C.blk scope s H0 c cl fp).X elt σ H Q
theorem Reps.snoc {K : PySem.W.Frag} {τ : List Nat → Own} {p : List Nat} : ∀ {ds : List D} {vs : List V} {k : Nat} {d : D} {v : V}, Reps K H ω τ p k ds vs → Rep K H ω τ (p ++ [k + ds.length]) d v → Reps K H ω τ p k (ds ++ [d]) (vs ++ [v])
  | [], _, k, d, v, h, r => by
    cases h
    exact .cons (by simpa using r) .nil
  | c :: ds, _, k, d, v, h, r => by
    cases h with
    | cons a b =>
      refine .cons a (Reps.snoc b ?_)
      rw [List.length_cons, show k + (ds.length + 1) = k + 1 + ds.length by omega] at r
      exact r
def joinK (H2 : Hp) (ω2 : Om) (k : Nat) (ω4 : Om) : Om := fun a => match H2 a, ω2 a with
  | some _, some (.res q) => some (.res q)
  | _, _ => match ω4 a with
    | some (.res q) => some (.res (k :: q))
    | x => x
theorem joinK_old {H2 : Hp} {k : Nat} {a : Addr} {u : HO} {q : List Nat} (h : H2 a = some u) (e : ω2 a = some (.res q)) : joinK H2 ω2 k ω1 a = some (.res q) := by unfold joinK; rw [h, e]
theorem joinK_new {H2 H4 : Hp} {ω4 : Om} {k : Nat} {a : Addr} (t : Tr H2 (hide ω2) H4 ω4) (h : ω4 a ≠ some .oth) : joinK H2 ω2 k ω4 a = match ω4 a with | some (.res q) => some (.res (k :: q)) | x => x := by
  unfold joinK
  cases q : H2 a with
  | none => rfl
  | some u =>
    cases z : ω2 a with
    | none => rfl
    | some y =>
      cases y with
      | res p => exact absurd (((t.keep a u q (.inr (hide_res z))).2).trans (hide_res z)) h
      | sl i p => rfl
      | oth => rfl
theorem lc_step {K : PySem.W.Frag} {R : Nat → Bool} {σ0 : L2.St} {st : S} {H4 H' : Hp} {ω4 : Om} {Dl : Addr} {us us' : List V} {acc : List D} (t1 : Tr H1 ω1 H2 ω2) (t2 : Tr H2 (hide ω2) H4 ω4) (hn : H1 Dl = none) (hDl : H2 Dl = some (.lst us)) (hwD : ω2 Dl = some (.res []))
    (racc : Reps K H2 ω2 .res [] 0 acc us) (sm : Sim K R σ0 st σ H4 ω4) (hD' : H' Dl = some (.lst us')) (ho : ∀ a, a ≠ Dl → H' a = H4 a) :
    Tr H1 ω1 H' (joinK H2 ω2 acc.length ω4) ∧ Sim K R σ0 st σ H' (joinK H2 ω2 acc.length ω4) ∧ joinK H2 ω2 acc.length ω4 Dl = some (.res []) ∧ Reps K H' (joinK H2 ω2 acc.length ω4) .res [] 0 acc us ∧
      ∀ d v, Rep K H4 ω4 .res [] d v → Rep K H' (joinK H2 ω2 acc.length ω4) .res [acc.length] d v := by
  have wD : ω4 Dl = some .oth := ((t2.keep Dl _ hDl (.inr (hide_res hwD))).2).trans (hide_res hwD)
  have hD4 : H4 Dl = some (.lst us) := (t2.keep Dl _ hDl (.inr (hide_res hwD))).1
  have neD : ∀ {a : Addr} {x : Option Own}, ω4 a = x → x ≠ some .oth → a ≠ Dl := fun {a x} e hx z => by
    subst z
    rw [wD] at e
    exact hx e.symm
  have tup : TT0 H4 H' := fun a vs h => by
    have : a ≠ Dl := fun z => by rw [z, hD4] at h; cases h
    rw [ho a this]
    exact h
  have hnone : ∀ a u, H4 a = some u → ω4 a = none → H' a = some u ∧ joinK H2 ω2 acc.length ω4 a = none := fun a u h e => by
    refine ⟨by rw [ho a (neD e (fun z => nomatch z))]; exact h, ?_⟩
    rw [joinK_new t2 (by rw [e]; exact fun z => nomatch z), e]
  refine ⟨⟨fun a vs h => tup a vs (t2.tup a vs (t1.tup a vs h)), fun a u h e => ?_, fun a h => ?_⟩, ?_, joinK_old hDl hwD, ?_, fun d v r => ?_⟩
  · obtain ⟨h2, e2⟩ := t1.keep a u h e
    have e2' : hide ω2 a = ω1 a := by
      rcases e with e | e
      · rw [hide_none (e2.trans e), e]
      · rw [hide_oth (e2.trans e), e]
    obtain ⟨h4, e4⟩ := t2.keep a u h2 (by rw [e2']; exact e)
    have hne : a ≠ Dl := fun z => by rw [z, hn] at h; cases h
    refine ⟨by rw [ho a hne]; exact h4, ?_⟩
    unfold joinK
    rw [h2]
    rw [e2]
    rw [e4, e2']
    rcases e with e | e <;> rw [e]
  · by_cases z : a = Dl
    · rw [z, hD']; exact fun z => nomatch z
    · rw [ho a z]; exact t2.dom a (t1.dom a h)
  · refine sm.mv tup (fun a u i q h e => ?_) hnone
    refine ⟨by rw [ho a (neD e (fun z => nomatch z))]; exact h, ?_⟩
    rw [joinK_new t2 (by rw [e]; exact fun z => nomatch z), e]
  · refine racc.mvP (P := fun q => q ≠ []) (g := id) ⟨fun p k _ z => by simp at z, fun _ _ _ => rfl, fun a vs h => tup a vs (t2.tup a vs h), fun a u q hq h e => ?_, fun a u h e => ?_⟩ (fun k => ⟨fun z => by simp at z, rfl⟩)
    · have hne : a ≠ Dl := fun z => by
        rw [z, hwD] at e
        cases e
        exact hq rfl
      exact ⟨by rw [ho a hne]; exact (t2.keep a u h (.inr (hide_res e))).1, joinK_old h e⟩
    · obtain ⟨h4, e4⟩ := t2.keep a u h (.inl (hide_none e))
      exact hnone a u h4 (e4.trans (hide_none e))
  · refine r.mv (g := fun q => acc.length :: q) ⟨fun _ _ => rfl, tup, fun a u q h e => ?_, hnone⟩
    refine ⟨by rw [ho a (neD e (fun z => nomatch z))]; exact h, ?_⟩
    rw [joinK_new t2 (by rw [e]; exact fun z => nomatch z), e]
theorem lc_run (k : C.Ok lv) {vs tv : List Nat} {g : D → S → Option S} {i : M (List D)} {t : M Bool} {m : M D} {st : S} {Qd : VK} (hi : SI C tg iter i)
    (hg : ∀ s H c cl fp, SG (C.blk scope s H c cl fp) tg tv g) (ht : ∀ s H c cl fp, STs (C.blk scope s H c cl fp) ifs t) (he : ∀ s H c cl fp, SE (C.blk scope s H c cl fp) elt m)
    (htv : ∀ j ∈ tv, j ∈ vs) (hR : ∀ v ∈ vs, C.R v = false) (s : C.Sim st σ H ω) (p : PostE C σ H ω Qd (eLc vs g i t m st)) :
    tLc (WI C.X tg iter) (tgAll C scope tg) (ttAll C scope ifs) (teAll C scope elt) vs σ H Qd := by
  show WI C.X tg iter σ H _
  refine hi st σ H ω _ s ?_
  unfold eLc at p
  cases q : i st with
  | stuck => rw [q] at p; exact p
  | exc x w s1 => rw [q] at p; exact p
  | ok ys s1 =>
    rw [q] at p
    simp only [bind_ok] at p
    by_cases hz : ¬ (ys.length ≤ 100000)
    · rw [if_neg hz] at p
      exact p.elim
    have hz := Decidable.not_not.mp hz
    rw [if_pos hz] at p
    intro J H1 ω1 t1 sm1 J1 Dl hD
    generalize hF : lcL vs g t m ys (wipeS s1 vs) = F at p
    let Inv1 : Nat → Hp → Prop := fun i H' => ∃ st' acc us ω', Tr H1 ω1 H' ω' ∧ C.Sim st' (wipe σ vs) H' ω' ∧ H' Dl = some (.lst us) ∧ ω' Dl = some (.res []) ∧ Reps C.X.K H' ω' .res [] 0 acc us ∧ acc.length ≤ i ∧
        F = (lcL vs g t m (ys.drop i) st').map (acc ++ ·)
    refine ⟨fun i n H' => n = ys.length - i ∧ i ≤ ys.length ∧ Inv1 i H', ⟨_, rfl, Nat.zero_le _, wipeS s1 vs, [], [], ownN ω1 Dl, Tr.newN (Tr.refl _ _) hD, (sm1.wipe hR).newN hD, upd_same, ownN_same, .nil, Nat.le_refl _, ?_⟩, ?_⟩
    · rw [← hF]
      unfold Rs.map
      rw [List.drop_zero]
      cases lcL vs g t m ys (wipeS s1 vs) <;> rfl
    · rintro i n H2 ⟨rfl, hi', st2, acc, us, ω2, t2, sm2, hDl, hwD, racc, hacc, hfin⟩
      by_cases hlt : i < ys.length
      · have ed : ys.drop i = ys[i] :: ys.drop (i + 1) := List.drop_eq_getElem_cons hlt
        have eg : ys[i]? = some ys[i] := List.getElem?_eq_getElem hlt
        rw [ed] at hfin
        obtain ⟨go, yl⟩ := J1.go H2 ω2 i _ t2.n eg
        refine .inr ⟨go, Inv1 (i + 1), fun H' h => ⟨_, by omega, rfl, hlt, h⟩, fun x H3 y => ?_⟩
        obtain ⟨ex, hf, r3⟩ := yl x H3 y
        rw [lcL_cons] at hfin
        have bad : F = .stuck → False := fun z => by rw [z] at p; exact p
        have bade : ∀ x w s', F = .exc x w s' → PX C H ω x w s' := fun x w s' z => by rw [z] at p; exact p
        intro bs bH bc bcl bfp
        cases q1 : g ys[i] st2 with
        | none => rw [q1] at hfin; exact (bad hfin).elim
        | some s3 =>
          simp only [q1] at hfin
          refine hg bs bH bc bcl bfp st2 (wipe σ vs) H3 (hide ω2) _ x _ (sm2.hid.ext ex) hf (r3.any (fun _ _ h => h) (fun a u h e => ⟨h, hide_none e⟩) hf) ⟨s3, q1, fun σ4 ω4 c4 t4 sm4 => ?_⟩
          have t24 : Tr H2 (hide ω2) H3 ω4 := ex.tr.trans t4
          have z4 : wipe σ4 vs = wipe σ vs := wipe_eq (by rw [c4.1, wipe_length]) fun j hj => by
              rw [c4.2 j (fun z => hj (htv j z)), wipe_at hj]
          refine ⟨z4, ?_⟩
          intro bs bH bc bcl bfp
          refine ht bs bH bc bcl bfp s3 σ4 H3 ω4 _ sm4 ?_
          cases q2 : t s3 with
          | stuck => rw [q2] at hfin; exact (bad hfin).elim
          | exc x w s5 => rw [q2] at hfin; exact (bad hfin).elim
          | ok b s5 =>
            rw [q2] at hfin
            cases b with
            | false =>
              simp only at hfin
              intro H5 ω5 t5 sm5
              obtain ⟨l1, l2, l3, l4, _⟩ := lc_step t2 (t24.trans t5) hD hDl hwD racc (sm5.wipe (vs := vs) hR) (((t24.trans t5).keep Dl _ hDl (.inr (hide_res hwD))).1) (fun _ _ => rfl)
              rw [z4] at l2
              exact ⟨_, acc, us, _, l1, l2, ((t24.trans t5).keep Dl _ hDl (.inr (hide_res hwD))).1, l3, l4, Nat.le_succ_of_le hacc, hfin⟩
            | true =>
              simp only at hfin
              intro H5 ω5 t5 sm5
              show teAll C scope elt σ4 H5 _
              intro bs bH bc bcl bfp
              refine he bs bH bc bcl bfp s5 σ4 H5 ω5 _ sm5 ?_
              cases q3 : m s5 with
              | stuck => rw [q3] at hfin; exact (bad hfin).elim
              | exc x w s6 => rw [q3] at hfin; exact (bad hfin).elim
              | ok d s6 =>
                rw [q3] at hfin
                simp only at hfin
                intro v H6 ω6 t6 sm6 r6
                have t26 := (t24.trans t5).trans t6
                have hD6 := (t26.keep Dl _ hDl (.inr (hide_res hwD))).1
                have hl : acc.length = us.length := rep_len racc
                refine ⟨us, hD6, Nat.lt_of_lt_of_le (by omega : us.length < 100001) (by decide), ?_⟩
                obtain ⟨l1, l2, l3, l4, l5⟩ := lc_step t2 t26 hD hDl hwD racc (sm6.wipe (vs := vs) hR) (H' := upd H6 Dl (.lst (us ++ [v]))) upd_same (fun a h => upd_ne h)
                rw [z4] at l2
                refine ⟨_, acc ++ [d], us ++ [v], _, l1, l2, upd_same, l3, l4.snoc (by rw [Nat.zero_add]; exact l5 d v r6), by rw [List.length_append]; exact Nat.succ_le_succ hacc, ?_⟩
                rw [hfin]
                unfold Rs.map
                cases lcL vs g t m (ys.drop (i + 1)) (wipeS s6 vs) with
                | ok a s => simp only [bind_ok, List.append_assoc, List.singleton_append]
                | exc x w s => rfl
                | stuck => rfl
      · have e : i = ys.length := by omega
        subst e
        rw [List.drop_length, lcL_nil] at hfin
        refine .inl ⟨J1.stop H2 ω2 t2.n, ?_⟩
        unfold Rs.map at hfin
        simp only [bind_ok, List.append_nil] at hfin
        rw [hfin] at p
        simp only [bind_ok] at p
        exact p (.ref Dl) H2 ω2 (t1.trans t2) (sm2.unwipe hR) (.lst hDl hwD racc)
theorem se_lc (k : C.Ok lv) {vs tv : List Nat} {g : D → S → Option S} {i : M (List D)} {t : M Bool} {m : M D} (own : List (Str × Nat)) (ok : BlkOk C.X.N C.X.env.scope scope own) (hi : SI C tg iter i)
    (hg : ∀ s H c cl fp, SG (C.blk scope s H c cl fp) tg tv g) (ht : ∀ s H c cl fp, STs (C.blk scope s H c cl fp) ifs t) (he : ∀ s H c cl fp, SE (C.blk scope s H c cl fp) elt m)
    (hv : own.map (·.2) = vs := by rfl) (htv : ∀ j ∈ tv, j ∈ vs := by decide) (hR : (vs.all fun v => !C.R v) = true := by rfl) (hs : ∀ x, foldedSetIterable iter C.X.env x = pure x := by intro _; rfl) : SE C (.ListComp elt [⟨tg, iter, ifs, 0⟩] scope pos) (eLc vs g i t m) := fun st σ H ω Q s p => by
  have hR : ∀ v ∈ vs, C.R v = false := fun v h => by simpa using List.all_eq_true.mp hR v h
  subst hv
  exact ⟨_, pe_lc k.calm k.nd pi_w ok (g := tgAll C scope tg) (tt := ttAll C scope ifs) (te := teAll C scope elt) (fun s H c cl fp => ⟨fun pins s2 σ H2 v u Q I r h => pg_w.run pins s2 σ H2 v u Q I r (h s H c cl fp)⟩)
    (fun s H c cl fp => ⟨fun pins s2 σ H2 Q I h => by obtain ⟨t', h1, h2⟩ := h s H c cl fp; exact h1.run pins s2 σ H2 Q I h2⟩) (fun s H c cl fp => ⟨fun pins s2 σ H2 Q I h => pe_w.run pins s2 σ H2 Q I (h s H c cl fp)⟩) hs, lc_run k hi hg ht he htv hR s p⟩
theorem ss_setLc (k : C.Ok lv) {x : Str} {j : Nat} {py spos : Pos} {vs tv : List Nat} {g : D → S → Option S} {i : M (List D)} {t : M Bool} {m : M D} (own : List (Str × Nat)) (ok : BlkOk C.X.N C.X.env.scope scope own) (hi : SI C tg iter i)
    (hg : ∀ s H c cl fp, SG (C.blk scope s H c cl fp) tg tv g) (ht : ∀ s H c cl fp, STs (C.blk scope s H c cl fp) ifs t) (he : ∀ s H c cl fp, SE (C.blk scope s H c cl fp) elt m)
    (hsw : swapsWith (.ListComp elt [⟨tg, iter, ifs, 0⟩] scope pos) (some (.Name x py)) spos.line C.X.env = pure true) (hj : C.X.N[j]? = some x := by rfl) (hx : C.X.env.scope.names.lookup x = some .local := by rfl) (hRj : C.R j = false := by rfl)
    (hv : own.map (·.2) = vs := by rfl) (htv : ∀ j ∈ tv, j ∈ vs := by decide) (hR : (vs.all fun v => !C.R v) = true := by rfl) (hs : ∀ x, foldedSetIterable iter C.X.env x = pure x := by intro _; rfl) : SS C (.Assign [.Name x py] (.ListComp elt [⟨tg, iter, ifs, 0⟩] scope pos) spos) (sSet j (eLc vs g i t m)) := fun st σ H ω N s p => by
  have hR : ∀ v ∈ vs, C.R v = false := fun v h => by simpa using List.all_eq_true.mp hR v h
  subst hv
  refine ⟨_, ps_setLc k.calm k.nd hj hx hsw pi_w ok (g := tgAll C scope tg) (tt := ttAll C scope ifs) (te := teAll C scope elt) (fun s H c cl fp => ⟨fun pins s2 σ H2 v u Q I r h => pg_w.run pins s2 σ H2 v u Q I r (h s H c cl fp)⟩)
    (fun s H c cl fp => ⟨fun pins s2 σ H2 Q I h => by obtain ⟨t', h1, h2⟩ := h s H c cl fp; exact h1.run pins s2 σ H2 Q I h2⟩) (fun s H c cl fp => ⟨fun pins s2 σ H2 Q I h => pe_w.run pins s2 σ H2 Q I (h s H c cl fp)⟩) hs, ?_⟩
  refine lc_run (Qd := fun v H1 => N.nx (σ.set j (some v)) H1) k hi hg ht he htv hR s ?_
  unfold sSet at p
  cases q : eLc (own.map (·.2)) g i t m st with
  | stuck => rw [q] at p; exact p
  | exc x w s1 => rw [q] at p; exact p
  | ok d s1 =>
    rw [q] at p
    exact fun v H1 ω1 t1 sm1 r1 => p _ _ _ t1.slw (sm1.set hRj r1)
end
end SV

namespace SV
open PySem PySem.Spec PyProof.Rows L2
structure FnG (P : Program) (w : World) (K : PySem.W.Frag) (mg : Str → Option Value) (base : Heap) (CX : CXT) (k : Nat) (f : Addr) (fd : FuncData) (ps : List Str) (sp : Sp) : Prop where
  ln : ∀ vs H Q E, sp vs H Q E → vs.length = ps.length
  go : ∀ (A : Around) (outer : List Env) (s : Shared) (H : Hp) (ar : PySem.Args) (us : List Value) (vs : List V) (Q : VK) (E : XK), RoomG k A →
    Env0 P w K mg base A outer s H → BindsTo s fd ar (ps.zip us) → Vals vs us → sp vs H Q E → codeAny (model P w) A (.call (.ref f) ar) (CR CX outer P w H s Q E) s
theorem fnG_of {CX : CXT} {P : Program} {w : World} {K : PySem.W.Frag} {mg : Str → Option Value} {base : Heap} {k : Nat} {x qual : Str} {params : Arguments} {body : List Stmt} {scope : Scope} {dvs : List V} {kws : List (Str × V)} {f : Addr} {fd : FuncData} {N ps : List Str} {sp : Sp}
    (F : FunD K x qual params body scope dvs kws f fd) (Sc : FnScope N ps scope) (ln : ∀ vs H Q E, sp vs H Q E → vs.length = ps.length)
    (hb : ∀ cd A outer s H vs Q E, RoomG k (A.deeper (envOfC qual scope s.heap.objs.size f cd)) → sp vs H Q E →
      ∃ t, PSs (cxOf CX P w K mg base N qual scope f cd A outer s H E) body t ∧ t { nx := fun _ H' => Q .non H', rt := Q } (L2.start N vs) H) : FnG P w K mg base CX (k + 1) f fd ps sp := by
  refine ⟨ln, ?_⟩
  intro A outer s H ar us vs Q E room env bnd rel hsp
  obtain ⟨_, _, _, _, _, _, _, cd, _, _, e, look, code, _, _⟩ := F.ex
  subst e
  have stay : ∀ b o, base.get? b = some o → s.heap.get? b = some o := fun b o z => (env.bs b o z).1
  have kin : K.In s.heap := env.mod.kin.keeps stay
  refine codeAny_call_function room.rm.depth (kin _ _ look) rfl Sc.co Sc.gen rfl (PySem.W.codeRec_of kin code) (bnd _ _ _ _ ?_)
  refine wpAny_newFunctionEnv_cells Sc.kind (fun p hp => ?_) fun env' ee s1 X => ?_
  · have hp1 : p.1 ∈ ps := (List.of_mem_zip (show (p.1, p.2) ∈ ps.zip us from hp)).1
    exact (Sc.par p.1 hp1).imp id fun z => ⟨z, PySem.W.cellsFrom_some _ _ _ (.inl z)⟩
  · subst ee
    refine ⟨(env.mod.nolimit.keeps stay).keeps X.toInCall.keep, codeAny_func ?_⟩
    obtain ⟨t, pt, ht⟩ := hb cd A outer s H vs Q E (room.deeper _) hsp
    refine wpAny_mono (pt.run [] s1 (L2.start N vs) H _ (inv_start Sc room.rm.hd env (ln _ _ _ _ hsp) rel X) ht) (fun fl s2 h => ?_) fun _ _ h => h
    cases fl with
    | brk => obtain ⟨_, _, _, z⟩ := h; exact z.elim
    | cont => obtain ⟨_, _, _, z⟩ := h; exact z.elim
    | next => obtain ⟨_, H2, J, z⟩ := h; exact ⟨.non, H2, J.os, J.bare, J.base, J.hok, rfl, z⟩
    | ret u => obtain ⟨v, _, H2, J, rv, z⟩ := h; exact ⟨v, H2, J.os, J.bare, J.base, J.hok, rv, z⟩

inductive Cr where
  | ok (d : D) (ps : List D)
  | exc (x : Str) (w : D) (ps : List D)
  | stuck
inductive Args (K : PySem.W.Frag) (H : Hp) (ω : Om) : Nat → List Bool → List D → List V → Prop
  | nil {j} : Args K H ω j [] [] []
  | cons {j m ms d ds v vs} : (m = false → frzd d = true) → Rep K H ω (.sl j) [] d v → Args K H ω (j + 1) ms ds vs → Args K H ω j (m :: ms) (d :: ds) (v :: vs)
inductive Back (K : PySem.W.Frag) (H : Hp) (ω : Om) : Nat → List Bool → List V → List D → Prop
  | nil {j} : Back K H ω j [] [] []
  | val {j ms v vs ps} : Back K H ω (j + 1) ms vs ps → Back K H ω j (false :: ms) (v :: vs) ps
  | ref {j ms v vs p ps} : Rep K H ω (.sl j) [] p v → Back K H ω (j + 1) ms vs ps → Back K H ω j (true :: ms) (v :: vs) (p :: ps)
def PostC (K : PySem.W.Frag) (modes : List Bool) (H : Hp) (ω : Om) (vs : List V) (Q : VK) (E : XK) : Cr → Prop
  | .ok d ps => ∀ v H' ω', Tr H ω H' ω' → Back K H' ω' 0 modes vs ps → Rep K H' ω' .res [] d v → Q v H'
  | .exc x w ps => ∀ ed wv H' ω', H ed = none → Tr H ω H' ω' → Back K H' ω' 0 modes vs ps → ω' ed = none → H' ed = some (.xd [("what", wv)]) → Rep K H' ω' .res [] w wv → E (.ref (He.ga K x)) (some ed) H'
  | .stuck => False
def spF (K : PySem.W.Frag) (modes : List Bool) (Φ : List D → Cr) : Sp := fun vs H Q E => ∃ ω ds, Args K H ω 0 modes ds vs ∧ PostC K modes H ω vs Q E (Φ ds)
theorem Args.len {K : PySem.W.Frag} {H : Hp} {ω : Om} : ∀ {j ms ds vs}, Args K H ω j ms ds vs → vs.length = ms.length
  | _, _, _, _, .nil => rfl
  | _, _, _, _, .cons _ _ r => congrArg (· + 1) r.len
theorem Args.lenD {K : PySem.W.Frag} {H : Hp} {ω : Om} : ∀ {j ms ds vs}, Args K H ω j ms ds vs → ds.length = ms.length
  | _, _, _, _, .nil => rfl
  | _, _, _, _, .cons _ _ r => congrArg (· + 1) r.lenD

def argsOf (st : S) : List Bool → List Opd → Option (List D)
  | [], [] => some []
  | m :: ms, o :: os => match getO st o, argsOf st ms os with
    | some d, some ds => some ((if m = true then d else frz d) :: ds)
    | _, _ => none
  | _, _ => none
def refsOf : Nat → List Bool → List Opd → List (Nat × Nat)
  | j, true :: ms, .s i :: os => (i, j) :: refsOf (j + 1) ms os
  | j, _ :: ms, _ :: os => refsOf (j + 1) ms os
  | _, _, _ => []
def brwOf (st : S) : List Bool → List Opd → List Nat
  | false :: ms, .s i :: os => (match getO st (.s i) with
    | some d => if frzd d = true then brwOf st ms os else i :: brwOf st ms os
    | none => i :: brwOf st ms os)
  | _ :: ms, _ :: os => brwOf st ms os
  | _, _ => []
def putB : List Bool → List Opd → List D → S → S
  | true :: ms, .s i :: os, p :: ps, st => putB ms os ps (st.set i (some p))
  | true :: ms, .v _ :: os, _ :: ps, st => putB ms os ps st
  | false :: ms, _ :: os, ps, st => putB ms os ps st
  | _, _, _, st => st
def apartOk (refs : List (Nat × Nat)) (brw : List Nat) : Bool := decide ((refs.map (·.1)).Nodup) && refs.all fun r => !brw.contains r.1
def endOk (brw : List Nat) (d : D) (ps : List D) : Bool := brw.isEmpty || (nofz d && nofzL ps)
def callEnd (modes : List Bool) (os : List Opd) (brw : List Nat) (s : S) : Cr → Rs D
  | .ok d ps => if endOk brw d ps = true then .ok d (putB modes os ps s) else .stuck
  | .exc x w ps => if endOk brw w ps = true then .exc x w (putB modes os ps s) else .stuck
  | .stuck => .stuck
def eCall (modes : List Bool) (Φ : List D → Cr) (ms : M (List Opd)) : M D := fun st => (ms st).bind fun os s => match argsOf s modes os with
  | some ds => if apartOk (refsOf 0 modes os) (brwOf s modes os) = true then callEnd modes os (brwOf s modes os) s (Φ ds) else .stuck
  | none => .stuck

def cw (modes : List Bool) (refs : List (Nat × Nat)) (brw : List Nat) (ω : Om) : Om := fun a => match ω a with
  | none => none
  | some .oth => some .oth
  | some (.res []) => none
  | some (.res (k :: q)) => if modes[k]? = some true then some (.sl k q) else none
  | some (.sl i q) => match refs.lookup i with
    | some j => some (.sl j q)
    | none => if i ∈ brw then none else some .oth
def refd (modes : List Bool) (refs : List (Nat × Nat)) : Option Own → Bool
  | some (.sl i _) => (refs.lookup i).isSome
  | some (.res (k :: _)) => decide (modes[k]? = some true)
  | _ => false
def bw (modes : List Bool) (refs : List (Nat × Nat)) (H1 : Hp) (ω1 ωc : Om) : Om := fun a =>
  if (H1 a).isSome = true ∧ refd modes refs (ω1 a) = false then (match ω1 a with
    | some (.res _) => none
    | x => x)
  else match ωc a with
    | some (.sl j q) => (match refs.find? (fun r => r.2 == j) with
      | some r => some (.sl r.1 q)
      | none => some .oth)
    | x => x
section
variable {modes : List Bool} {refs : List (Nat × Nat)} {brw : List Nat} {H1 H' : Hp} {ω1 ωc : Om}
theorem bw_old {a : Addr} {u : HO} (h : H1 a = some u) (r : refd modes refs (ω1 a) = false) : bw modes refs H1 ω1 ωc a = match ω1 a with | some (.res _) => none | x => x := by
  unfold bw
  rw [if_pos ⟨by rw [h]; rfl, r⟩]
theorem bw_new {a : Addr} (h : H1 a = none ∨ refd modes refs (ω1 a) = true) : bw modes refs H1 ω1 ωc a = match ωc a with
    | some (.sl j q) => (match refs.find? (fun r => r.2 == j) with
      | some r => some (.sl r.1 q)
      | none => some .oth)
    | x => x := by
  unfold bw
  rw [if_neg]
  rintro ⟨h1, h2⟩
  rcases h with h | h
  · rw [h] at h1; cases h1
  · rw [h] at h2; cases h2
theorem cw_keeps {a : Addr} {u : HO} (t : Tr H1 (cw modes refs brw ω1) H' ωc) (h : H1 a = some u) (r : refd modes refs (ω1 a) = false) : H' a = some u ∧ ωc a = cw modes refs brw ω1 a ∧ (cw modes refs brw ω1 a = none ∨ cw modes refs brw ω1 a = some .oth) := by
  have z : cw modes refs brw ω1 a = none ∨ cw modes refs brw ω1 a = some .oth := by
    unfold cw
    cases q : ω1 a with
    | none => exact .inl rfl
    | some o =>
      cases o with
      | oth => exact .inr rfl
      | res p =>
        cases p with
        | nil => exact .inl rfl
        | cons k p =>
          rw [q] at r
          simp only [refd, decide_eq_false_iff_not] at r
          refine .inl ?_
          show (if modes[k]? = some true then some (Own.sl k p) else none) = none
          rw [if_neg r]
      | sl i p =>
        rw [q] at r
        simp only [refd, Option.isSome_eq_false_iff, Option.isNone_iff_eq_none] at r
        simp only [r]
        by_cases hb : i ∈ brw
        · rw [if_pos hb]; exact .inl rfl
        · rw [if_neg hb]; exact .inr rfl
  obtain ⟨h1, h2⟩ := t.keep a u h z
  exact ⟨h1, h2, z⟩
theorem bw_res {a : Addr} {q : List Nat} (t : Tr H1 (cw modes refs brw ω1) H' ωc) (e : ωc a = some (.res q)) : bw modes refs H1 ω1 ωc a = some (.res q) := by
  rw [bw_new, e]
  cases h : H1 a with
  | none => exact .inl rfl
  | some u =>
    cases r : refd modes refs (ω1 a) with
    | true => exact .inr rfl
    | false =>
      obtain ⟨_, h2, h3⟩ := cw_keeps t h r
      rw [← h2, e] at h3
      rcases h3 with z | z <;> cases z
theorem bw_sl {a : Addr} {j i : Nat} {q : List Nat} (t : Tr H1 (cw modes refs brw ω1) H' ωc) (e : ωc a = some (.sl j q)) (hf : refs.find? (fun r => r.2 == j) = some (i, j)) : bw modes refs H1 ω1 ωc a = some (.sl i q) := by
  rw [bw_new, e]
  · simp only [hf]
  · cases h : H1 a with
    | none => exact .inl rfl
    | some u =>
      cases r : refd modes refs (ω1 a) with
      | true => exact .inr rfl
      | false =>
        obtain ⟨_, h2, h3⟩ := cw_keeps t h r
        rw [← h2, e] at h3
        rcases h3 with z | z <;> cases z
theorem bw_none {a : Addr} (t : Tr H1 (cw modes refs [] ω1) H' ωc) (e : ωc a = none) : bw modes refs H1 ω1 ωc a = none := by
  cases h : H1 a with
  | none => rw [bw_new (.inl h), e]
  | some u =>
    cases r : refd modes refs (ω1 a) with
    | true => rw [bw_new (.inr r), e]
    | false =>
      obtain ⟨_, h2, h3⟩ := cw_keeps t h r
      rw [bw_old h r]
      rw [e] at h2
      unfold cw at h2
      cases q : ω1 a with
      | none => rfl
      | some o =>
        cases o with
        | oth => rw [q] at h2; cases h2
        | res p => rfl
        | sl i p =>
          rw [q] at h2
          rw [q] at r
          simp only [refd, Option.isSome_eq_false_iff, Option.isNone_iff_eq_none] at r
          simp only [r, List.not_mem_nil, if_false] at h2
          cases h2
end
structure MvN (H : Hp) (ω : Om) (τ : List Nat → Own) (H' : Hp) (ω' : Om) (τ' : List Nat → Own) : Prop where
  tup : TT0 H H'
  own : ∀ a u q, H a = some u → ω a = some (τ q) → H' a = some u ∧ ω' a = some (τ' q)
section
variable {K : PySem.W.Frag} {H H' : Hp} {ω ω' : Om} {τ τ' : List Nat → Own}
mutual
theorem Rep.mvN (M : MvN H ω τ H' ω' τ') : ∀ {p d v}, nofz d = true → Rep K H ω τ p d v → Rep K H' ω' τ' p d v
  | _, _, _, _, .non => .non
  | _, _, _, _, .bl => .bl
  | _, _, _, _, .int => .int
  | _, _, _, _, .str => .str
  | _, _, _, _, .fn => .fn
  | _, _, _, _, .ty => .ty
  | _, _, _, z, .tup h r => .tup (h.elim (fun h => .inl (M.tup _ _ h)) .inr) (Reps.mvN M (by simpa [nofz] using z) r)
  | _, .lst o _, _, z, .lst h e r => by
    simp only [nofz, Bool.and_eq_true] at z
    obtain ⟨rfl, z⟩ := z
    have y := M.own _ _ _ h e
    exact .lst y.1 y.2 (Reps.mvN M z r)
  | _, .ro _, _, z, .ro h r => by simp [nofz] at z
  | _, .dct o _ _, _, z, .dct h l e r => by
    simp only [nofz, Bool.and_eq_true] at z
    obtain ⟨rfl, z⟩ := z
    have y := M.own _ _ _ h e
    exact .dct y.1 l y.2 (Reps.mvN M z r)
  | _, .dz o _ _, _, z, .dz h l e r => by
    simp only [nofz, Bool.and_eq_true] at z
    obtain ⟨rfl, z⟩ := z
    obtain ⟨bs, h1, h2⟩ := id h
    exact .dz (h.to (fun u q => (M.own _ _ _ q e).1) M.tup) l (M.own _ _ _ h1 e).2 (Reps.mvN M z r)
  | _, .ins o _ _ _, _, z, .ins h l e r => by
    simp only [nofz, Bool.and_eq_true] at z
    obtain ⟨rfl, z⟩ := z
    have y := M.own _ _ _ h e
    exact .ins y.1 l y.2 (Reps.mvN M z r)
  | _, .xc _ _, _, z, .xc _ _ _ _ _ => by simp [nofz] at z
theorem Reps.mvN (M : MvN H ω τ H' ω' τ') : ∀ {p k ds vs}, nofzL ds = true → Reps K H ω τ p k ds vs → Reps K H' ω' τ' p k ds vs
  | _, _, _, _, _, .nil => .nil
  | _, _, _, _, z, .cons h r => by
    simp only [nofzL, Bool.and_eq_true] at z
    exact .cons (Rep.mvN M z.1 h) (Reps.mvN M z.2 r)
end
end

section
variable {K : PySem.W.Frag} {R : Nat → Bool} {σ0 σ : L2.St} {s : S} {H1 H' : Hp} {ω1 ωc : Om} {modes : List Bool} {refs : List (Nat × Nat)} {brw : List Nat}
theorem cw_none {a : Addr} (h : ω1 a = none) : cw modes refs brw ω1 a = none := by unfold cw; rw [h]
theorem args_of (sm : Sim K R σ0 s σ H1 ω1) : ∀ {ms : List Bool} {os : List Opd} {vs : List V} {ds : List D} {j : Nat}, OReps K H1 ω1 σ j os vs → argsOf s ms os = some ds → (∀ r ∈ refsOf j ms os, refs.lookup r.1 = some r.2) → (∀ i ∈ brwOf s ms os, i ∈ brw ∧ refs.lookup i = none) →
    (∀ k, ms[k]? = modes[j + k]?) → Args K H1 (cw modes refs brw ω1) j ms ds vs
  | [], [], _, ds, j, r, h, _, _, _ => by cases r; cases h; exact .nil
  | [], _ :: _, _, _, _, _, h, _, _, _ => by simp [argsOf] at h
  | _ :: _, [], _, _, _, _, h, _, _, _ => by simp [argsOf] at h
  | m :: ms, o :: os, vs, ds, j, r, h, hr, hb, hm => by
    unfold argsOf at h
    cases e1 : getO s o with
    | none => rw [e1] at h; cases h
    | some d =>
      cases e2 : argsOf s ms os with
      | none => rw [e1, e2] at h; cases h
      | some dr =>
        rw [e1, e2] at h
        cases h
        obtain ⟨v, us, rfl, r1, r2⟩ := r.get sm e1
        have hm0 : modes[j]? = some m := by have := hm 0; simpa using this.symm
        have hm' : ∀ k, ms[k]? = modes[j + 1 + k]? := fun k => by
          have := hm (k + 1)
          rw [List.getElem?_cons_succ] at this
          rw [this, show j + (k + 1) = j + 1 + k by omega]
        have tail : Args K H1 (cw modes refs brw ω1) (j + 1) ms dr us := by
          refine args_of sm r2 e2 (fun r h => hr r ?_) (fun i h => hb i ?_) hm'
          · cases m <;> cases o <;> (unfold refsOf; first | exact h | exact List.mem_cons_of_mem _ h)
          · cases m with
            | true => cases o <;> (unfold brwOf; exact h)
            | false =>
              cases o with
              | v _ => unfold brwOf; exact h
              | s i' =>
                unfold brwOf
                rw [e1]
                simp only
                split
                · exact h
                · exact List.mem_cons_of_mem _ h
        refine .cons (fun z => by rw [z]; exact frzd_frz d) ?_ tail
        cases m with
        | false =>
          simp only [Bool.false_eq_true, if_false]
          cases o with
          | v d0 =>
            refine r1.fzP (P := fun q => ∃ q', q = j :: q') ⟨fun p k ⟨q', e⟩ => ⟨q' ++ [k], by rw [e]; rfl⟩, fun _ _ h => h, fun a u q ⟨q', e'⟩ h e => ⟨h, ?_⟩, fun a u h e => ⟨h, cw_none e⟩⟩ ⟨[], rfl⟩
            unfold cw
            rw [e, e']
            simp only [hm0, Option.some.injEq, Bool.false_eq_true, if_false]
          | s i =>
            by_cases hf : frzd d = true
            · rw [frz_of hf]
              exact r1.any (fun _ _ h => h) (fun a u h e => ⟨h, cw_none e⟩) hf
            · have hi : i ∈ brwOf s (false :: ms) (.s i :: os) := by
                unfold brwOf
                rw [e1]
                simp only [if_neg hf]
                exact List.mem_cons_self
              obtain ⟨b1, b2⟩ := hb i hi
              refine r1.fz ⟨fun _ _ h => h, fun a u q h e => ⟨h, ?_⟩, fun a u h e => ⟨h, cw_none e⟩⟩
              unfold cw
              rw [e]
              simp only [b2, if_pos b1]
        | true =>
          simp only [if_true]
          cases o with
          | v d0 =>
            have z := r1.mvP (P := fun q => ∃ q', q = j :: q') (H' := H1) (ω' := cw modes refs brw ω1) (τ' := Own.sl j) (g := List.tail) ⟨fun p k ⟨q', e⟩ => ⟨q' ++ [k], by rw [e]; rfl⟩, fun p k ⟨q', e⟩ => by rw [e]; rfl, fun _ _ h => h, fun a u q ⟨q', e'⟩ h e => ⟨h, by
              unfold cw
              rw [e, e']
              simp only [hm0, if_true, List.tail_cons]⟩, fun a u h e => ⟨h, cw_none e⟩⟩ ⟨[], rfl⟩
            exact z
          | s i =>
            have hi : (i, j) ∈ refsOf j (true :: ms) (.s i :: os) := by unfold refsOf; exact List.mem_cons_self
            refine r1.mv (g := id) ⟨fun _ _ => rfl, fun _ _ h => h, fun a u q h e => ⟨h, ?_⟩, fun a u h e => ⟨h, cw_none e⟩⟩
            unfold cw
            rw [e]
            simp only [hr (i, j) hi, id_eq]
end

theorem lookup_nodup : ∀ {l : List (Nat × Nat)} {r : Nat × Nat}, (l.map (·.1)).Nodup → r ∈ l → l.lookup r.1 = some r.2
  | [], _, _, h => by cases h
  | (i, j) :: l, r, hn, h => by
    simp only [List.map_cons, List.nodup_cons] at hn
    rcases List.mem_cons.mp h with rfl | h
    · simp [List.lookup]
    · have hne : r.1 ≠ i := fun e => hn.1 (by rw [← e]; exact List.mem_map_of_mem h)
      have hb : (r.1 == i) = false := by simpa using hne
      simp only [List.lookup, hb]
      exact lookup_nodup hn.2 h
theorem refsOf_ge : ∀ {ms : List Bool} {os : List Opd} {j : Nat} {r : Nat × Nat}, r ∈ refsOf j ms os → j ≤ r.2
  | [], _, _, _, h => by simp [refsOf] at h
  | _ :: _, [], _, _, h => by simp [refsOf] at h
  | m :: ms, o :: os, j, r, h => by
    cases m <;> cases o <;> unfold refsOf at h
    · exact Nat.le_of_succ_le (refsOf_ge h)
    · exact Nat.le_of_succ_le (refsOf_ge h)
    · exact Nat.le_of_succ_le (refsOf_ge h)
    · rcases List.mem_cons.mp h with rfl | h
      · exact Nat.le_refl _
      · exact Nat.le_of_succ_le (refsOf_ge h)
theorem refsOf_find : ∀ {ms : List Bool} {os : List Opd} {j : Nat} {r : Nat × Nat}, r ∈ refsOf j ms os → (refsOf j ms os).find? (fun q => q.2 == r.2) = some r
  | [], _, _, _, h => by simp [refsOf] at h
  | _ :: _, [], _, _, h => by simp [refsOf] at h
  | m :: ms, o :: os, j, r, h => by
    cases m <;> cases o <;> unfold refsOf at h ⊢
    · exact refsOf_find h
    · exact refsOf_find h
    · exact refsOf_find h
    · rcases List.mem_cons.mp h with rfl | h
      · simp
      · have := refsOf_ge h
        have hb : (j == r.2) = false := by simp; omega
        simp only [List.find?_cons, hb]
        exact refsOf_find h
section
variable {K : PySem.W.Frag} {R : Nat → Bool} {σ0 σ : L2.St} {s : S} {H1 H' : Hp} {ω1 ωc : Om}
theorem putB_at : ∀ {ms : List Bool} {os : List Opd} {vs : List V} {ps : List D} {j n : Nat} {st : S} {i : Nat} {d : D}, Back K H' ωc j ms vs ps → OReps K H1 ω1 σ j os vs → (putB ms os ps st)[i]? = some (some d) →
    (st[i]? = some (some d) ∧ ∀ r ∈ refsOf j ms os, r.1 ≠ i) ∨ ∃ j' v, (i, j') ∈ refsOf j ms os ∧ σ[i]? = some (some v) ∧ Rep K H' ωc (.sl j') [] d v ∧ d ∈ ps
  | [], os, vs, ps, j, n, st, i, d, b, r, h => by
    cases b
    cases r
    exact .inl ⟨h, fun r h => by simp [refsOf] at h⟩
  | false :: ms, [], vs, ps, j, n, st, i, d, b, r, h => by cases r; cases b
  | true :: ms, [], vs, ps, j, n, st, i, d, b, r, h => by cases r; cases b
  | false :: ms, o :: os, vs, ps, j, n, st, i, d, b, r, h => by
    cases b with
    | val b =>
      have h' : (putB ms os ps st)[i]? = some (some d) := by
        cases o <;> (unfold putB at h; exact h)
      have e : refsOf j (false :: ms) (o :: os) = refsOf (j + 1) ms os := by cases o <;> rfl
      rw [e]
      cases r with
      | v _ r => exact putB_at (n := n) b r h'
      | s _ r => exact putB_at (n := n) b r h'
  | true :: ms, .v d0 :: os, vs, ps, j, n, st, i, d, b, r, h => by
    cases b with
    | ref rp b =>
      unfold putB at h
      cases r with
      | v _ r =>
        rcases putB_at (n := n) b r h with z | ⟨j', v, z1, z2, z3, z4⟩
        · exact .inl z
        · exact .inr ⟨j', v, z1, z2, z3, List.mem_cons_of_mem _ z4⟩
  | true :: ms, .s i0 :: os, vs, ps, j, n, st, i, d, b, r, h => by
    cases b with
    | ref rp b =>
      unfold putB at h
      cases r with
      | s hv r =>
        rcases putB_at (n := n) b r h with ⟨z, z'⟩ | ⟨j', v, z1, z2, z3, z4⟩
        · by_cases e : i0 = i
          · subst e
            by_cases hi : i0 < st.length
            · rw [List.getElem?_set_self hi] at z
              cases z
              exact .inr ⟨j, _, by unfold refsOf; exact List.mem_cons_self, hv, rp, List.mem_cons_self⟩
            · rw [List.getElem?_eq_none (by simpa using hi)] at z
              cases z
          · rw [List.getElem?_set_ne e] at z
            refine .inl ⟨z, fun r hr => ?_⟩
            unfold refsOf at hr
            rcases List.mem_cons.mp hr with rfl | hr
            · exact e
            · exact z' r hr
        · exact .inr ⟨j', v, by unfold refsOf; exact List.mem_cons_of_mem _ z1, z2, z3, List.mem_cons_of_mem _ z4⟩
theorem putB_len : ∀ {ms : List Bool} {os : List Opd} {ps : List D} {st : S}, (putB ms os ps st).length = st.length
  | [], _, _, _ => by simp [putB]
  | _ :: _, [], _, _ => by simp [putB]
  | false :: ms, o :: os, ps, st => by cases o <;> (unfold putB; exact putB_len)
  | true :: ms, .v _ :: os, [], st => by simp [putB]
  | true :: ms, .s _ :: os, [], st => by simp [putB]
  | true :: ms, .v _ :: os, p :: ps, st => by unfold putB; exact putB_len
  | true :: ms, .s i :: os, p :: ps, st => by unfold putB; rw [putB_len, List.length_set]
theorem nofzL_mem : ∀ {ps : List D} {d : D}, nofzL ps = true → d ∈ ps → nofz d = true
  | _ :: _, _, h, hm => by
    simp only [nofzL, Bool.and_eq_true] at h
    rcases List.mem_cons.mp hm with rfl | hm
    · exact h.1
    · exact nofzL_mem h.2 hm
end
theorem lookup_none : ∀ {l : List (Nat × Nat)} {i : Nat}, (∀ r ∈ l, r.1 ≠ i) → l.lookup i = none
  | [], _, _ => rfl
  | (a, b) :: l, i, h => by
    have h1 : (i == a) = false := by simpa using fun e => h (a, b) List.mem_cons_self e.symm
    simp only [List.lookup, h1]
    exact lookup_none fun r hr => h r (List.mem_cons_of_mem _ hr)
section
variable {C : Ct} {H H1 : Hp} {ω ω1 : Om} {σ : L2.St} {s : S}
theorem call_back {modes : List Bool} {os : List Opd} {vs : List V} {H' : Hp} {ωc : Om} {ps : List D} {d : D} (sm : C.Sim s σ H1 ω1) (t1 : Tr H ω H1 ω1) (r : OReps C.X.K H1 ω1 σ 0 os vs) (ap : apartOk (refsOf 0 modes os) (brwOf s modes os) = true)
    (he : endOk (brwOf s modes os) d ps = true) (t : Tr H1 (cw modes (refsOf 0 modes os) (brwOf s modes os) ω1) H' ωc) (b : Back C.X.K H' ωc 0 modes vs ps) :
    Tr H ω H' (bw modes (refsOf 0 modes os) H1 ω1 ωc) ∧ C.Sim (putB modes os ps s) σ H' (bw modes (refsOf 0 modes os) H1 ω1 ωc) ∧ ∀ v, Rep C.X.K H' ωc .res [] d v → Rep C.X.K H' (bw modes (refsOf 0 modes os) H1 ω1 ωc) .res [] d v := by
  generalize hR : refsOf 0 modes os = refs at *
  generalize hB : brwOf s modes os = brw at *
  have ap' : (refs.map (·.1)).Nodup := by
    unfold apartOk at ap
    rw [Bool.and_eq_true] at ap
    exact of_decide_eq_true ap.1
  have mvT : ∀ {τ τ' : List Nat → Own} {d : D} {v : V}, (brw = [] ∨ nofz d = true) → (∀ a u q, H' a = some u → ωc a = some (τ q) → bw modes refs H1 ω1 ωc a = some (τ' q)) → Rep C.X.K H' ωc τ [] d v → Rep C.X.K H' (bw modes refs H1 ω1 ωc) τ' [] d v := fun {τ τ' d v} hb ho r => by
    rcases hb with hb | hb
    · subst hb
      exact r.mv (g := id) ⟨fun _ _ => rfl, fun _ _ h => h, fun a u q h e => ⟨h, ho a u q h e⟩, fun a u h e => ⟨h, bw_none t e⟩⟩
    · exact r.mvN ⟨fun _ _ h => h, fun a u q h e => ⟨h, ho a u q h e⟩⟩ hb
  have hd : brw = [] ∨ nofz d = true ∧ nofzL ps = true := by
    unfold endOk at he
    rw [Bool.or_eq_true, Bool.and_eq_true] at he
    rcases he with he | he
    · exact .inl (List.isEmpty_iff.mp he)
    · exact .inr he
  refine ⟨⟨fun a vs h => t.tup a vs (t1.tup a vs h), fun a u h e => ?_, fun a h => t.dom a (t1.dom a h)⟩, ⟨?_, fun i dd hi => ?_, sm.ref_⟩, fun v rv => mvT (hd.imp id (·.1)) (fun a u q _ e => bw_res t e) rv⟩
  · obtain ⟨h1, e1⟩ := t1.keep a u h e
    have rf : refd modes refs (ω1 a) = false := by
      rw [e1]
      rcases e with e | e <;> rw [e] <;> rfl
    obtain ⟨h2, _, _⟩ := cw_keeps t h1 rf
    refine ⟨h2, ?_⟩
    rw [bw_old h1 rf, e1]
    rcases e with e | e <;> rw [e]
  · rw [putB_len]; exact sm.len
  · rcases putB_at (n := 0) b r hi with ⟨z1, z2⟩ | ⟨j, v, z1, z2, z3, z4⟩
    · obtain ⟨v, ev, rv⟩ := sm.at_ i dd z1
      rw [hR] at z2
      have hl : refs.lookup i = none := lookup_none z2
      refine ⟨v, ev, rv.mv (g := id) ⟨fun _ _ => rfl, t.tup, fun a u q h e => ?_, fun a u h e => ?_⟩⟩
      · have rf : refd modes refs (ω1 a) = false := by rw [e]; simp only [refd, hl]; rfl
        refine ⟨(cw_keeps t h rf).1, ?_⟩
        rw [bw_old h rf, e]
        rfl
      · have rf : refd modes refs (ω1 a) = false := by rw [e]; rfl
        refine ⟨(cw_keeps t h rf).1, ?_⟩
        rw [bw_old h rf, e]
    · refine ⟨v, z2, mvT (hd.imp id fun z => nofzL_mem z.2 z4) (fun a u q _ e => bw_sl t e ?_) z3⟩
      have := refsOf_find z1
      rw [hR] at this
      exact this
theorem call_core {modes : List Bool} {os : List Opd} {vs : List V} {ds : List D} {Φ : List D → Cr} {Q : VK} (sm : C.Sim s σ H1 ω1) (t1 : Tr H ω H1 ω1) (r : OReps C.X.K H1 ω1 σ 0 os vs) (h : argsOf s modes os = some ds) (ap : apartOk (refsOf 0 modes os) (brwOf s modes os) = true)
    (p : PostE C σ H ω Q (callEnd modes os (brwOf s modes os) s (Φ ds))) : spF C.X.K modes Φ vs H1 Q (fun c d H2 => C.W c d σ H2) := by
  refine ⟨cw modes (refsOf 0 modes os) (brwOf s modes os) ω1, ds, args_of sm r h (fun q hq => ?_) (fun i hi => ⟨hi, ?_⟩) (fun k => by rw [Nat.zero_add]), ?_⟩
  · unfold apartOk at ap
    rw [Bool.and_eq_true] at ap
    exact lookup_nodup (of_decide_eq_true ap.1) hq
  · unfold apartOk at ap
    rw [Bool.and_eq_true] at ap
    refine lookup_none fun q hq e => ?_
    have z := List.all_eq_true.mp ap.2 q hq
    rw [e] at z
    simp [hi] at z
  · cases e : Φ ds with
    | stuck => rw [e] at p; exact p
    | ok d ps =>
      rw [e] at p
      unfold callEnd at p
      simp only at p
      by_cases he : endOk (brwOf s modes os) d ps = true
      · rw [if_pos he] at p
        intro v H' ωc t b rv
        obtain ⟨l1, l2, l3⟩ := call_back sm t1 r ap he t b
        exact p v H' _ l1 l2 (l3 v rv)
      · rw [if_neg he] at p
        exact p.elim
    | exc x w ps =>
      rw [e] at p
      unfold callEnd at p
      simp only at p
      by_cases he : endOk (brwOf s modes os) w ps = true
      · rw [if_pos he] at p
        intro ed wv H' ωc n t b hn hed rv
        obtain ⟨l1, l2, l3⟩ := call_back sm t1 r ap he t b
        exact p ed wv σ H' _ (t1.unborn n) l1 l2 (by rw [bw_new (.inl n), hn]) hed (l3 wv rv)
      · rw [if_neg he] at p
        exact p.elim
end

section
variable {X : Cx} {W : WX} {k : Nat} {f : Addr} {fd : FuncData} {ps : List Str} {sp : Sp} {dvs : List V} {ds : List Value} {x : Str} {p pos : Pos} {e : Expr} {es : List Expr} {t : TA}
theorem run_fnW {pins : List (Addr × Obj)} {σ : L2.St} {H : Hp} {s : Shared} {Q : VK} {us : List Value} {vs : List V} (F : FnG X.prog X.w X.K X.mg X.base (L2.CX X.prog X.w) k f fd ps sp) (hr : RoomG k X.A) (hb : Binds X.K fd ps ds) (hd : Vals dvs ds) (tk : Takes X W)
    (I : Inv X pins σ H s) (r : Vals vs us) (h : sp (vs ++ dvs) H Q (fun c d H2 => W c d σ H2)) : wpAny (model X.prog X.w) X.A (call (.ref f) us) (EP X pins σ Q) X.xe s := by
  have r2 : Vals (vs ++ dvs) (us ++ ds) := r.append hd
  have hl : (us ++ ds).length = ps.length := by rw [← r2.length]; exact F.ln _ _ _ _ h
  refine wpAny_call (codeAny_mono (F.go X.A X.stack s H ⟨us, []⟩ (us ++ ds) (vs ++ dvs) Q _ hr I.env0 (hb s us I.kIn hl) r2 h) fun r s' hq => ?_)
  cases r with
  | error e => exact tk e s' (XE.of_call I (fun cls d H' h => h) hq)
  | ok fl =>
    cases fl with
    | ret u => exact I.after hq
    | next => exact False.elim hq
    | brk => exact False.elim hq
    | cont => exact False.elim hq
theorem pe_callW (F : FnG X.prog X.w X.K X.mg X.base (L2.CX X.prog X.w) k f fd ps sp) (hr : RoomG k X.A) (hg : Gl X x) (hm : X.mg x = some (.ref f)) (hk : PySem.W.keepIn X.K (.ref f) = true) (hb : Binds X.K fd ps ds) (hd : Vals dvs ds) (tk : Takes X W)
    (ha : PA X (e :: es) t) (hdb : (x == ("__debug__" : Str)) = false := by decide) (he : starEach (e :: es) X.env = (false, eval e X.env) :: starEach es X.env := by rfl) (hpl : (backTo pos (starEach es X.env)).any (·.1) = false := by rfl) :
    PE X (.Call (.Name x p) (e :: es) [] pos) (fun σ H Q => t σ H fun vs H1 => sp (vs ++ dvs) H1 Q (fun c d H2 => W c d σ H2)) := by
  refine ⟨fun pins s σ H Q I h => ?_⟩
  refine wpAny_Call_Name_kw (ld_glob I hg hm ?_ hdb)
  refine PySem.W.callWith_K (h₀ := X.base) I.ok.mod.kin hk (thn (ha.run pos pins s σ H _ I h) fun us s1 ⟨vs, H1, I1, r, q⟩ => ⟨I1.kIn, ?_⟩) he hpl
  exact run_fnW F hr hb hd tk I1 r q
end
structure Fn (C : Ct) (k : Nat) (f : Addr) (fd : FuncData) (ps : List Str) (modes : List Bool) (Φ : List D → Cr) : Prop where
  ok : FnG C.X.prog C.X.w C.X.K C.X.mg C.X.base (L2.CX C.X.prog C.X.w) k f fd ps (spF C.X.K modes Φ)
  kp : PySem.W.keepIn C.X.K (.ref f) = true
  bd : Binds C.X.K fd ps []
section
variable {C : Ct} {k : Nat} {f : Addr} {fd : FuncData} {ps : List Str} {modes : List Bool} {Φ : List D → Cr} {x : Str} {p pos : Pos} {e : Expr} {es : List Expr}
theorem se_call (o : C.Ok lv) (F : Fn C k f fd ps modes Φ) (hm : C.X.mg x = some (.ref f)) {ms : M (List Opd)} (hs : SA C (e :: es) ms) (hle : k ≤ lv := by decide) (hg : Gl C.X x := by rfl)
    (hst : StarOk C.X.env (e :: es) := by repeat' (first | exact trivial | exact rfl | constructor)) (hdb : (x == ("__debug__" : Str)) = false := by decide) (he : starEach (e :: es) C.X.env = (false, eval e C.X.env) :: starEach es C.X.env := by rfl) (hpl : (backTo pos (starEach es C.X.env)).any (·.1) = false := by rfl) :
    SE C (.Call (.Name x p) (e :: es) [] pos) (eCall modes Φ ms) := fun st σ H ω Q s q => by
  refine ⟨_, pe_callW F.ok (o.room.mono hle) hg hm F.kp F.bd .nil o.tk (pa_wl hst) hdb he hpl, ?_⟩
  refine hs 0 st σ H ω _ s ?_
  unfold eCall at q
  cases z : ms st with
  | stuck => rw [z] at q; exact q
  | exc x w s1 => rw [z] at q; exact q
  | ok os s1 =>
    rw [z] at q
    simp only [bind_ok] at q
    intro vs H1 ω1 t1 sm1 r1
    cases e1 : argsOf s1 modes os with
    | none => rw [e1] at q; exact q.elim
    | some ds =>
      rw [e1] at q
      by_cases ap : apartOk (refsOf 0 modes os) (brwOf s1 modes os) = true
      · simp only [ap, if_true] at q
        rw [List.append_nil]
        exact call_core sm1 t1 r1 e1 ap q
      · simp only [ap, if_false] at q
        exact q.elim
end

def start (n : Nat) (ds : List D) : S := ds.map some ++ List.replicate (n - ds.length) none
def backs : List Bool → S → Option (List D)
  | [], _ => some []
  | true :: ms, some d :: st => (backs ms st).map (d :: ·)
  | true :: _, _ => none
  | false :: ms, _ :: st => backs ms st
  | false :: ms, [] => backs ms []
def runDef (modes : List Bool) (n : Nat) (m : M Fl) (ds : List D) : Cr := match m (start n ds) with
  | .ok f st => (match backs modes st, f with
    | some ps, .rt d => .ok d ps
    | some ps, .nx => .ok .non ps
    | _, _ => .stuck)
  | .exc x w st => (match backs modes st with
    | some ps => .exc x w ps
    | none => .stuck)
  | .stuck => .stuck
abbrev ctOf (P : Program) (w : World) (K : PySem.W.Frag) (mg : Str → Option Value) (base : Heap) (N : List Str) (qual : Str) (scope : Scope) (f : Addr) (cd : Value) (A : Around) (outer : List Env) (s : Shared) (H : Hp) (E : XK) (modes : List Bool) (vs : List V) : Ct :=
  ⟨cxOf (L2.CX P w) P w K mg base N qual scope f cd A outer s H E, fun cls d _ H => E cls d H, fun j => modes.getD j false, L2.start N vs⟩
theorem Args.at {K : PySem.W.Frag} {H : Hp} {ω : Om} : ∀ {j : Nat} {ms : List Bool} {ds : List D} {vs : List V} {i : Nat} {d : D}, Args K H ω j ms ds vs → ds[i]? = some d → ∃ v, vs[i]? = some v ∧ Rep K H ω (.sl (j + i)) [] d v
  | _, _, _, _, _, _, .nil, h => by simp at h
  | j, _, _, _, 0, d, .cons _ r _, h => by
    simp only [List.getElem?_cons_zero, Option.some.injEq] at h
    exact ⟨_, rfl, h ▸ r⟩
  | j, _, _, _, i + 1, d, .cons _ _ a, h => by
    simp only [List.getElem?_cons_succ] at h ⊢
    obtain ⟨v, h1, h2⟩ := a.at h
    rw [show j + 1 + i = j + (i + 1) by omega] at h2
    exact ⟨v, h1, h2⟩
theorem start_at {α β : Type} {xs : List α} {n i : Nat} {x : α} (h : (xs.map some ++ List.replicate (n - xs.length) none)[i]? = some (some x)) : xs[i]? = some x := by
  by_cases hi : i < xs.length
  · rw [List.getElem?_append_left (by simpa using hi), List.getElem?_map] at h
    cases q : xs[i]? with
    | none => rw [q] at h; cases h
    | some y => rw [q] at h; cases h; rfl
  · rw [List.getElem?_append_right (by simpa using hi)] at h
    obtain ⟨hlt, e⟩ := List.getElem?_eq_some_iff.mp h
    rw [List.getElem_replicate] at e
    cases e
theorem backs_ok {K : PySem.W.Frag} {H : Hp} {ω : Om} {σ : L2.St} : ∀ {ms : List Bool} {st : S} {ps : List D} {vs : List V} {j : Nat}, backs ms st = some ps → (∀ i d, st[i]? = some (some d) → ∃ v, σ[j + i]? = some (some v) ∧ Rep K H ω (.sl (j + i)) [] d v) →
    vs.length = ms.length → (∀ i, ms[i]? = some true → ∃ v, vs[i]? = some v ∧ σ[j + i]? = some (some v)) → Back K H ω j ms vs ps
  | [], st, ps, vs, j, h, _, hl, _ => by
    cases h
    cases vs with
    | nil => exact .nil
    | cons _ _ => simp at hl
  | true :: ms, [], ps, vs, j, h, _, _, _ => by simp [backs] at h
  | true :: ms, none :: st, ps, vs, j, h, _, _, _ => by simp [backs] at h
  | true :: ms, some d :: st, ps, [], j, h, _, hl, _ => by simp at hl
  | true :: ms, some d :: st, ps, v :: vs, j, h, ha, hl, hv => by
    unfold backs at h
    cases q : backs ms st with
    | none => rw [q] at h; cases h
    | some ps' =>
      rw [q] at h
      cases h
      obtain ⟨v1, e1, r1⟩ := ha 0 d rfl
      obtain ⟨v2, e2, e3⟩ := hv 0 rfl
      cases e2
      rw [e3] at e1
      cases e1
      refine .ref r1 (backs_ok (σ := σ) q (fun i d h => ?_) (by simpa using hl) fun i h => ?_)
      · have := ha (i + 1) d (by simpa using h)
        rw [show j + (i + 1) = j + 1 + i by omega] at this
        exact this
      · have := hv (i + 1) (by simpa using h)
        rw [show j + (i + 1) = j + 1 + i by omega] at this
        simpa using this
  | false :: ms, st, ps, [], j, h, _, hl, _ => by simp at hl
  | false :: ms, [], ps, v :: vs, j, h, ha, hl, hv => by
    unfold backs at h
    refine .val (backs_ok (σ := σ) h (fun i d h => by simp at h) (by simpa using hl) fun i h => ?_)
    have := hv (i + 1) (by simpa using h)
    rw [show j + (i + 1) = j + 1 + i by omega] at this
    simpa using this
  | false :: ms, o :: st, ps, v :: vs, j, h, ha, hl, hv => by
    unfold backs at h
    refine .val (backs_ok (σ := σ) h (fun i d h => ?_) (by simpa using hl) fun i h => ?_)
    · have := ha (i + 1) d (by simpa using h)
      rw [show j + (i + 1) = j + 1 + i by omega] at this
      exact this
    · have := hv (i + 1) (by simpa using h)
      rw [show j + (i + 1) = j + 1 + i by omega] at this
      simpa using this
theorem def_ok {P : Program} {w : World} {K : PySem.W.Frag} {mg : Str → Option Value} {base : Heap} {x qual : Str} {params : Arguments} {body : List Stmt} {scope : Scope} {dvs : List V} {kws : List (Str × V)} {f : Addr} {fd : FuncData} {N ps : List Str} {k : Nat}
    (F : FunD K x qual params body scope dvs kws f fd) (Sc : FnScope N ps scope) (modes : List Bool) (Φ : List D → Cr) (m : M Fl) (hl : modes.length = ps.length)
    (hb : ∀ cdv A outer s H E vs, RoomG k (A.deeper (envOfC qual scope s.heap.objs.size f cdv)) → (ctOf P w K mg base N qual scope f cdv A outer s H E modes vs).Ok k → SSs (ctOf P w K mg base N qual scope f cdv A outer s H E modes vs) body m)
    (hΦ : ∀ ds, ds.length = modes.length → Φ ds ≠ .stuck → runDef modes N.length m ds = Φ ds) : FnG P w K mg base (L2.CX P w) (k + 1) f fd ps (spF K modes Φ) := by
  refine fnG_of F Sc (fun vs H Q E h => ?_) (fun cdv A outer s H vs Q E hr h => ?_)
  · obtain ⟨ω, ds, a, _⟩ := h
    rw [a.len, hl]
  · obtain ⟨ω, ds, a, p⟩ := h
    have hns : Φ ds ≠ .stuck := fun z => by rw [z] at p; exact p
    have e := hΦ ds a.lenD hns
    have hN : ps.length ≤ N.length := by have := congrArg List.length Sc.pre; rw [List.length_take] at this; omega
    have ok : (ctOf P w K mg base N qual scope f cdv A outer s H E modes vs).Ok k := ⟨hr, takes_of rfl rfl rfl rfl, rfl, passes_of rfl, hr.rm.units, Sc.nd⟩
    have sm : (ctOf P w K mg base N qual scope f cdv A outer s H E modes vs).Sim (start N.length ds) (L2.start N vs) H ω := by
      refine ⟨by simp [start, L2.start, a.len, a.lenD], fun i d hi => ?_, fun _ _ => rfl⟩
      have hd := start_at (β := Unit) hi
      obtain ⟨v, h1, h2⟩ := a.at hd
      rw [Nat.zero_add] at h2
      refine ⟨v, ?_, h2⟩
      unfold L2.start
      have hlt := (List.getElem?_eq_some_iff.mp h1).1
      rw [List.getElem?_append_left (by simpa using hlt), List.getElem?_map, h1]
      rfl
    have bk : ∀ {st' : S} {σ' : L2.St} {H' : Hp} {ω' : Om} {pp : List D}, (ctOf P w K mg base N qual scope f cdv A outer s H E modes vs).Sim st' σ' H' ω' → backs modes st' = some pp → Back K H' ω' 0 modes vs pp := fun {st' σ' H' ω' pp} sm' hb' => by
      refine backs_ok (σ := σ') hb' (fun i d h => ?_) a.len fun i hi => ?_
      · rw [Nat.zero_add]
        exact sm'.at_ i d h
      · have hi' : i < vs.length := by rw [a.len]; exact (List.getElem?_eq_some_iff.mp hi).1
        refine ⟨vs[i], List.getElem?_eq_getElem hi', ?_⟩
        rw [Nat.zero_add]
        have := sm'.ref_ i (by show modes.getD i false = true; rw [List.getD_eq_getElem?_getD, hi]; rfl)
        rw [this]
        show (L2.start N vs)[i]? = _
        unfold L2.start
        rw [List.getElem?_append_left (by simpa using hi'), List.getElem?_map, List.getElem?_eq_getElem hi']
        rfl
    have key := hb cdv A outer s H E vs hr ok (start N.length ds) (L2.start N vs) H ω { nx := fun _ H' => Q .non H', rt := Q } sm
    refine key ?_
    unfold runDef at e
    cases z : m (start N.length ds) with
    | stuck => rw [z] at e; exact (hns e.symm).elim
    | exc x w st' =>
      rw [z] at e
      cases q : backs modes st' with
      | none => simp only [q] at e; exact (hns e.symm).elim
      | some pp =>
        simp only [q] at e
        rw [← e] at p
        exact fun ed wv σ' H' ω' n t' sm' hn hed rw' => p ed wv H' ω' n t' (bk sm' q) hn hed rw'
    | ok fl st' =>
      rw [z] at e
      cases q : backs modes st' with
      | none => simp only [q] at e; exact (hns e.symm).elim
      | some pp =>
        simp only [q] at e
        cases fl with
        | nx =>
          rw [← e] at p
          exact fun σ' H' ω' t' sm' => p .non H' ω' t' (bk sm' q) .non
        | rt d =>
          rw [← e] at p
          exact fun v σ' H' ω' t' sm' r' => p v H' ω' t' (bk sm' q) r'
        | bk => exact (hns e.symm).elim
        | ct => exact (hns e.symm).elim
end SV

namespace SV
open PySem PySem.Spec PyProof.Rows L2
def RepT (K : PySem.W.Frag) (H : Hp) (ω : Om) (d : D) (v : V) : Prop := match d with
  | .lst _ xs => ∃ a vs, v = .ref a ∧ H a = some (.lst vs) ∧ Reps K H ω .res [] 0 xs vs
  | .ro xs => ∃ a vs, v = .ref a ∧ SqL K H a vs ∧ Reps K H ω .res [] 0 xs vs
  | .tup xs => ∃ a vs, v = .ref a ∧ TupAt K H a vs ∧ Reps K H ω .res [] 0 xs vs
  | .int i => v = .int i
  | .str x => v = .str x
  | .bl b => v = .bl b
  | .non => v = .non
  | _ => True
def RepTs (K : PySem.W.Frag) (H : Hp) (ω : Om) : List D → List V → Prop
  | [], vs => vs = []
  | d :: ds, vs => ∃ v r, vs = v :: r ∧ RepT K H ω d v ∧ RepTs K H ω ds r
def topF : D → D
  | .lst _ xs => .lst false xs
  | d => d
def okT (o : Opd) (d : D) : Bool := match o with
  | .v _ => true
  | .s _ => frzd (topF d)
section
variable {K : PySem.W.Frag} {R : Nat → Bool} {σ0 σ : L2.St} {st : S} {H : Hp} {ω : Om}
theorem repT_of {n : Nat} {o : Opd} {os : List Opd} {vs : List V} {d : D} (s : Sim K R σ0 st σ H ω) (r : OReps K H ω σ n (o :: os) vs) (h : getO st o = some d) (ho : okT o d = true) :
    ∃ v us, vs = v :: us ∧ RepT K H (fzw ω) (frz d) v ∧ OReps K H ω σ (n + 1) os us := by
  obtain ⟨v, us, rfl, r1, r2⟩ := r.get s h
  refine ⟨v, us, rfl, ?_, r2⟩
  cases o with
  | v _ =>
    cases r1 with
    | lst h1 h2 h3 => exact ⟨_, _, rfl, h1, h3.give⟩
    | tup h1 h3 => exact ⟨_, _, rfl, h1, h3.give⟩
    | ro h1 h3 => exact ⟨_, _, rfl, h1.sq, h3.give⟩
    | int => rfl
    | str => rfl
    | bl => rfl
    | non => rfl
    | _ => exact trivial
  | s i =>
    cases r1 with
    | lst h1 h2 h3 => exact ⟨_, _, rfl, h1, h3.keepF (by simpa [okT, topF, frzd] using ho)⟩
    | tup h1 h3 => exact ⟨_, _, rfl, h1, h3.keepF (by simpa [okT, topF, frzd] using ho)⟩
    | ro h1 h3 => exact ⟨_, _, rfl, h1.sq, h3.keepF (by simpa [okT, topF, frzd] using ho)⟩
    | int => rfl
    | str => rfl
    | bl => rfl
    | non => rfl
    | _ => exact trivial
def tops (st : S) : List Opd → Option (List D)
  | [] => some []
  | o :: os => match getO st o, tops st os with
    | some d, some ds => if okT o d = true then some (frz d :: ds) else none
    | _, _ => none
theorem repTs_of (s : Sim K R σ0 st σ H ω) : ∀ {os : List Opd} {n : Nat} {vs : List V} {ds : List D}, OReps K H ω σ n os vs → tops st os = some ds → RepTs K H (fzw ω) ds vs
  | [], _, _, _, r, h => by cases h; cases r; rfl
  | o :: os, _, _, _, r, h => by
    unfold tops at h
    cases e1 : getO st o with
    | none => rw [e1] at h; cases h
    | some d =>
      cases e2 : tops st os with
      | none => rw [e1, e2] at h; cases h
      | some ds =>
        simp only [e1, e2] at h
        by_cases ho : okT o d = true
        · rw [if_pos ho] at h
          cases h
          obtain ⟨v, us, e, r1, r2⟩ := repT_of s r e1 ho
          exact ⟨v, us, e, r1, repTs_of s r2 e2⟩
        · rw [if_neg ho] at h
          cases h
def New (H : Hp) (ω : Om) (H' : Hp) (ω' : Om) : Prop := (H' = H ∧ ω' = ω) ∨ ∃ p o, H p = none ∧ H' = upd H p o ∧ ω' = ownN ω p
theorem New.tr {H0 H' : Hp} {ω0 ω' : Om} (n : New H ω H' ω') (t : Tr H0 ω0 H ω) : Tr H0 ω0 H' ω' := by
  rcases n with ⟨rfl, rfl⟩ | ⟨p, o, hp, rfl, rfl⟩
  · exact t
  · exact t.newN hp
theorem New.sim {H' : Hp} {ω' : Om} (n : New H ω H' ω') (s : Sim K R σ0 st σ H ω) : Sim K R σ0 st σ H' ω' := by
  rcases n with ⟨rfl, rfl⟩ | ⟨p, o, hp, rfl, rfl⟩
  · exact s
  · exact s.newN hp
end
def AllocOp (K : PySem.W.Frag) (T : List V → Hp → VK → Prop) (g : List D → Option D) : Prop := ∀ (H : Hp) (ω : Om) (ds : List D) (vs : List V) (r : D) (Q : VK), RepTs K H ω ds vs → g ds = some r → (∀ v H' ω', New H ω H' ω' → Rep K H' ω' .res [] r v → Q v H') → T vs H Q
def opA (g : List D → Option D) (ms : M (List Opd)) : M D := fun st => (ms st).bind fun os s => match tops s os with
  | some ds => (match g ds with
    | some r => .ok r s
    | none => .stuck)
  | none => .stuck
section
variable {C : Ct} {a b e : Expr} {es : List Expr} {pos : Pos} {x : Str}
theorem opA_run {g : List D → Option D} {ms : M (List Opd)} {st : S} {σ : L2.St} {H : Hp} {ω : Om} {Q : VK} {T : List V → Hp → VK → Prop} (hm : SA C es ms) (s : C.Sim st σ H ω) (p : PostE C σ H ω Q (opA g ms st)) (hg : AllocOp C.X.K T g) : WL C.X es σ H fun vs H1 => T vs H1 Q := by
  refine hm 0 st σ H ω _ s ?_
  unfold opA at p
  cases q : ms st with
  | stuck => rw [q] at p; exact p
  | exc x w s1 => rw [q] at p; exact p
  | ok os s1 =>
    rw [q] at p
    simp only [bind_ok] at p
    intro vs H1 ω1 t1 sm1 r1
    cases e2 : tops s1 os with
    | none => rw [e2] at p; exact p.elim
    | some ds =>
      rw [e2] at p
      cases e3 : g ds with
      | none => simp only [e3] at p; exact p.elim
      | some r =>
        simp only [e3] at p
        exact hg H1 (fzw ω1) ds vs r Q (repTs_of sm1 r1 e2) e3 fun v H' ω' n rr => p v H' ω' (n.tr t1.fzw) (n.sim sm1.fzw) rr
def e2A (g : List D → Option D) (ma mb : M Opd) : M D := opA g (aCons ma (aCons mb aNil))
theorem se_opA {op : Operator} {g : List D → Option D} {ma mb : M Opd} (hg : AllocOp C.X.K (T2 C.X (binaryOp op)) g) (ha : SO C a ma) (hb : SO C b mb) : SE C (.BinOp a op b pos) (e2A g ma mb) := fun st σ H ω Q s p =>
  ⟨_, pe_op op_w pe_w pe_w, opA_run (T := T2 C.X (binaryOp op)) (sa_cons ha (sa_cons hb sa_nil)) s p hg⟩
theorem se_callBA {id : String} {g : List D → Option D} {ms : M (List Opd)} {p pos : Pos} (hg : AllocOp C.X.K (CallW C.X (.builtin id)) g) (hx : Gl C.X x) (hm : C.X.mg x = none) (hv : bootBuiltins x = some (.builtin id)) (hs : SA C (e :: es) ms) (hst : StarOk C.X.env (e :: es) := by repeat' (first | exact trivial | exact rfl | constructor))
    (hn : x ≠ "__name__" := by decide) (hdb : (x == ("__debug__" : Str)) = false := by decide)
    (he : starEach (e :: es) C.X.env = (false, eval e C.X.env) :: starEach es C.X.env := by rfl) (hpl : (backTo pos (starEach es C.X.env)).any (·.1) = false := by rfl) : SE C (.Call (.Name x p) (e :: es) [] pos) (opA g ms) := fun st σ H ω Q s q =>
  ⟨_, pe_callB call_w hx hm hv (pa_wl hst) hn hdb he hpl, opA_run hs s q hg⟩
theorem se_callTyA {T : String} {g : List D → Option D} {ms : M (List Opd)} {p pos : Pos} (hg : AllocOp C.X.K (CallW C.X (.type T)) g) (hx : Gl C.X x) (hm : C.X.mg x = none) (hv : bootBuiltins x = some (.type T)) (hs : SA C (e :: es) ms) (hst : StarOk C.X.env (e :: es) := by repeat' (first | exact trivial | exact rfl | constructor))
    (hn : x ≠ "__name__" := by decide) (hdb : (x == ("__debug__" : Str)) = false := by decide)
    (he : starEach (e :: es) C.X.env = (false, eval e C.X.env) :: starEach es C.X.env := by rfl) (hpl : (backTo pos (starEach es C.X.env)).any (·.1) = false := by rfl) : SE C (.Call (.Name x p) (e :: es) [] pos) (opA g ms) := fun st σ H ω Q s q =>
  ⟨_, pe_callTy call_w hx hm hv (pa_wl hst) hn hdb he hpl, opA_run hs s q hg⟩

theorem Reps.len {K : PySem.W.Frag} {H : Hp} {ω : Om} {τ : List Nat → Own} {p k ds vs} (r : Reps K H ω τ p k ds vs) : ds.length = vs.length := rep_len r
theorem Reps.re {K : PySem.W.Frag} {H : Hp} {ω : Om} {τ τ' : List Nat → Own} {p q : List Nat} {k j : Nat} {ds : List D} {vs : List V} (hf : frzdL ds = true) (r : Reps K H ω τ p k ds vs) : Reps K H ω τ' q j ds vs := r.any (fun _ _ h => h) (fun a u h z => ⟨h, z⟩) hf
theorem Reps.append {K : PySem.W.Frag} {H : Hp} {ω : Om} {τ : List Nat → Own} {p : List Nat} : ∀ {xs ys : List D} {vs ws : List V} {k : Nat}, Reps K H ω τ p k xs vs → Reps K H ω τ p (k + xs.length) ys ws → Reps K H ω τ p k (xs ++ ys) (vs ++ ws)
  | [], _, _, _, _, a, b => by cases a; simpa using b
  | x :: xs, _, _, _, k, a, b => by
    cases a with
    | cons a1 a2 =>
      refine .cons a1 (Reps.append a2 ?_)
      rw [List.length_cons, show k + (xs.length + 1) = k + 1 + xs.length by omega] at b
      exact b
theorem frzdL_append : ∀ {xs ys : List D}, frzdL (xs ++ ys) = (frzdL xs && frzdL ys)
  | [], ys => by simp [frzdL]
  | x :: xs, ys => by simp only [List.cons_append, frzdL, frzdL_append, Bool.and_assoc]
theorem Reps.newL {K : PySem.W.Frag} {H : Hp} {ω : Om} {p : Addr} {ds : List D} {vs : List V} (hp : H p = none) (r : Reps K H ω .res [] 0 ds vs) : Rep K (upd H p (.lst vs)) (ownN ω p) .res [] (.lst true ds) (.ref p) := .lst upd_same ownN_same (r.newN hp)
theorem Reps.newT {K : PySem.W.Frag} {H : Hp} {ω : Om} {p : Addr} {ds : List D} {vs : List V} (hp : H p = none) (r : Reps K H ω .res [] 0 ds vs) : Rep K (upd H p (.tup vs)) (ownN ω p) .res [] (.tup ds) (.ref p) := .tup (.inl upd_same) (r.newN hp)
def gAdd : List D → Option D
  | [.int i, .int j] => some (.int (i + j))
  | [.str x, .str y] => if x.length + y.length ≤ 100000 then some (.str (x ++ y)) else none
  | [.lst _ xs, .lst _ ys] => if frzdL xs = true ∧ frzdL ys = true ∧ xs.length + ys.length ≤ 100000 then some (.lst true (xs ++ ys)) else none
  | [.tup xs, .tup ys] => if frzdL xs = true ∧ frzdL ys = true ∧ xs.length + ys.length ≤ 100000 then some (.tup (xs ++ ys)) else none
  | _ => none
theorem a_add {X : Cx} : AllocOp X.K (T2 X (binaryOp .Add)) gAdd := by
  intro H ω ds vs r Q hv e k
  unfold gAdd at e
  split at e
  · obtain ⟨v, _, rfl, h1, w, _, rfl, h2, rfl⟩ := hv
    cases e
    exact ⟨_, op_add, _, _, h1, h2, k _ H ω (.inl ⟨rfl, rfl⟩) .int⟩
  · obtain ⟨v, _, rfl, h1, w, _, rfl, h2, rfl⟩ := hv
    split at e
    · rename_i hz
      cases e
      exact ⟨_, op_add_str, _, _, h1, h2, Nat.le_trans hz (by decide), k _ H ω (.inl ⟨rfl, rfl⟩) .str⟩
    · cases e
  · obtain ⟨v, _, rfl, h1, w, _, rfl, h2, rfl⟩ := hv
    split at e
    · rename_i hz
      cases e
      obtain ⟨a, vs, rfl, ha, ra⟩ := h1
      obtain ⟨b, ws, rfl, hb, rb⟩ := h2
      refine ⟨_, op_cat, a, b, vs, ws, rfl, rfl, ha, hb, ?_, fun p hp => ?_⟩
      · rw [← ra.len, ← rb.len]; exact Nat.le_trans hz.2.2 (by decide)
      · exact k _ _ _ (.inr ⟨p, _, hp, rfl, rfl⟩) (Reps.newL hp (ra.append (rb.re hz.2.1)))
    · cases e
  · obtain ⟨v, _, rfl, h1, w, _, rfl, h2, rfl⟩ := hv
    split at e
    · rename_i hz
      cases e
      obtain ⟨a, vs, rfl, ha, ra⟩ := h1
      obtain ⟨b, ws, rfl, hb, rb⟩ := h2
      refine ⟨_, op_catA, a, b, vs, ws, rfl, rfl, ha.sq, hb.sq, ?_, fun z => ?_, fun z1 z => ?_, fun _ _ p hp => ?_⟩
      · rw [← ra.len, ← rb.len]; exact Nat.le_trans hz.2.2 (by decide)
      · subst z
        cases ra
        exact k _ _ _ (.inl ⟨rfl, rfl⟩) (.tup hb rb)
      · subst z
        cases rb
        rw [List.append_nil] at k
        exact k _ _ _ (.inl ⟨rfl, rfl⟩) (.tup ha ra)
      · exact k _ _ _ (.inr ⟨p, _, hp, rfl, rfl⟩) (Reps.newT hp (ra.append (rb.re hz.2.1)))
    · cases e
  · cases e
def repD (n : Nat) (xs : List D) : List D := (List.replicate n xs).flatten
theorem repD_reps {K : PySem.W.Frag} {H : Hp} {ω : Om} {xs : List D} {vs : List V} (hf : frzdL xs = true) (r : Reps K H ω .res [] 0 xs vs) : ∀ {n k : Nat}, Reps K H ω .res [] k (repD n xs) (List.replicate n vs).flatten
  | 0, k => .nil
  | n + 1, k => by
    unfold repD
    simp only [List.replicate_succ, List.flatten_cons]
    exact (r.re hf).append (repD_reps hf r)
def gMul : List D → Option D
  | [.int i, .int j] => if mulOk i j = true then some (.int (i * j)) else none
  | [.lst _ xs, .int j] => if frzdL xs = true ∧ j.natAbs < 9223372036854775808 ∧ xs.length * j.toNat ≤ 100000 then some (.lst true (repD j.toNat xs)) else none
  | [.tup xs, .int j] => if frzdL xs = true ∧ xs ≠ [] ∧ 2 ≤ j ∧ j.natAbs ≤ 1000 ∧ xs.length ≤ 1000 then some (.tup (repD j.toNat xs)) else none
  | _ => none
instance : Decidable (∃ x : D, False) := isFalse fun ⟨_, h⟩ => h
theorem a_mul {X : Cx} : AllocOp X.K (T2 X (binaryOp .Mult)) gMul := by
  intro H ω ds vs r Q hv e k
  unfold gMul at e
  split at e
  · obtain ⟨v, _, rfl, h1, w, _, rfl, h2, rfl⟩ := hv
    split at e
    · rename_i hz
      cases e
      unfold mulOk at hz
      simp only [Bool.or_eq_true, decide_eq_true_eq] at hz
      have kk := k _ H ω (.inl ⟨rfl, rfl⟩) Rep.int
      rcases hz with (hz | hz) | hz
      · exact ⟨_, op_mul, _, _, h1, h2, .inl (by omega), kk⟩
      · exact ⟨_, op_mul, _, _, h1, h2, .inr (by omega), kk⟩
      · exact ⟨_, op_mulW, _, _, h1, h2, hz, kk⟩
    · cases e
  · obtain ⟨v, _, rfl, h1, w, _, rfl, h2, rfl⟩ := hv
    split at e
    · rename_i hz
      cases e
      obtain ⟨a, vs, rfl, ha, ra⟩ := h1
      refine ⟨_, op_rep, a, _, vs, rfl, h2, ha, by omega, by omega, ?_, fun p hp => ?_⟩
      · rw [← ra.len]; exact Nat.le_trans hz.2.2 (by decide)
      · exact k _ _ _ (.inr ⟨p, _, hp, rfl, rfl⟩) (Reps.newL hp (repD_reps hz.1 ra))
    · cases e
  · obtain ⟨v, _, rfl, h1, w, _, rfl, h2, rfl⟩ := hv
    split at e
    · rename_i hz
      cases e
      obtain ⟨a, vs, rfl, ha, ra⟩ := h1
      refine ⟨_, op_repT, a, _, vs, rfl, h2, ha.sq, fun z => hz.2.1 ?_, hz.2.2.1, by omega, ?_, fun p hp => ?_⟩
      · subst z
        cases ra
        rfl
      · rw [← ra.len]; exact hz.2.2.2.2
      · exact k _ _ _ (.inr ⟨p, _, hp, rfl, rfl⟩) (Reps.newT hp (repD_reps hz.1 ra))
    · cases e
  · cases e
def gList : List D → Option D
  | [d] => match items d with
    | some xs => if xs.length ≤ 100000 then some (.lst true xs) else none
    | none => none
  | _ => none
theorem RepT.items {K : PySem.W.Frag} {H : Hp} {ω : Om} {d : D} {v : V} {xs : List D} (h : RepT K H ω d v) (e : items d = some xs) : ∃ a vs, v = .ref a ∧ (SqL K H a vs ∨ TupAt K H a vs) ∧ Reps K H ω .res [] 0 xs vs := by
  cases d <;> simp only [SV.items, Option.some.injEq, reduceCtorEq] at e
  all_goals
    subst e
    obtain ⟨a, vs, rfl, h1, h2⟩ := h
  · exact ⟨a, vs, rfl, .inr h1, h2⟩
  · exact ⟨a, vs, rfl, .inl (.of h1), h2⟩
  · exact ⟨a, vs, rfl, .inl h1, h2⟩
theorem a_list {X : Cx} : AllocOp X.K (CallW X (.type "list")) gList := by
  intro H ω ds vs r Q hv e k
  unfold gList at e
  split at e
  · obtain ⟨v, _, rfl, h1, rfl⟩ := hv
    split at e
    · rename_i q
      split at e
      · cases e
        obtain ⟨a, vs, rfl, hS, rr⟩ := h1.items q
        exact ⟨_, call_list_of, a, vs, rfl, hS.imp id TupAt.sq, fun p hp => k _ _ _ (.inr ⟨p, _, hp, rfl, rfl⟩) (Reps.newL hp rr)⟩
      · cases e
    · cases e
  · cases e
def gTuple : List D → Option D
  | [d] => match items d with
    | some xs => if xs.length ≤ 100000 then some (.tup xs) else none
    | none => none
  | _ => none
theorem a_tuple {X : Cx} : AllocOp X.K (CallW X (.type "tuple")) gTuple := by
  intro H ω ds vs r Q hv e k
  unfold gTuple at e
  split at e
  · obtain ⟨v, _, rfl, h1, rfl⟩ := hv
    split at e
    · rename_i q
      split at e
      · cases e
        obtain ⟨a, vs, rfl, hS, rr⟩ := h1.items q
        rcases hS with hS | hS
        · exact ⟨_, call_tuple_of, a, vs, rfl, .inl ⟨hS, fun p hp => k _ _ _ (.inr ⟨p, _, hp, rfl, rfl⟩) (Reps.newT hp rr)⟩⟩
        · exact ⟨_, call_tuple_of, a, vs, rfl, .inr ⟨hS.sq, k _ _ _ (.inl ⟨rfl, rfl⟩) (.tup hS rr)⟩⟩
      · cases e
    · cases e
  · cases e
end
end SV

namespace SV
open PySem PySem.Spec PyProof.Rows L2
def kids : D → List D
  | .tup xs => xs
  | .lst _ xs => xs
  | .ins _ _ _ vs => vs
  | _ => []
def withKids : D → List D → D
  | .tup _, ks => .tup ks
  | .lst o _, ks => .lst o ks
  | .ins o x n _, ks => .ins o x n ks
  | d, _ => d
def getP : D → List Nat → Option D
  | d, [] => some d
  | d, k :: π => match (kids d)[k]? with
    | some c => getP c π
    | none => none
def setP : D → List Nat → D → D
  | _, [], e => e
  | d, k :: π, e => match (kids d)[k]? with
    | some c => withKids d ((kids d).set k (setP c π e))
    | none => d
def VA (K : PySem.W.Frag) (H : Hp) : V → List Nat → V → Prop
  | v, [], u => u = v
  | v, k :: π, u => ∃ a vs w, v = .ref a ∧ (H a = some (.lst vs) ∨ TupAt K H a vs ∨ ∃ (C dx : Addr) (ns : List Str), H a = some (.ins C dx (ns.zip vs)) ∧ ns.length = vs.length) ∧ vs[k]? = some w ∧ VA K H w π u
section
variable {K : PySem.W.Frag} {H H' : Hp} {ω ω' : Om} {τ : List Nat → Own}
inductive RepsX (K : PySem.W.Frag) (H : Hp) (ω : Om) (τ : List Nat → Own) (p : List Nat) : Nat → Nat → List D → List V → Prop
  | here {j d v ds vs} : Reps K H ω τ p (j + 1) ds vs → RepsX K H ω τ p j 0 (d :: ds) (v :: vs)
  | more {j k d v ds vs} : Rep K H ω τ (p ++ [j]) d v → RepsX K H ω τ p (j + 1) k ds vs → RepsX K H ω τ p j (k + 1) (d :: ds) (v :: vs)
theorem RepsX.set {p : List Nat} {j k : Nat} {ds : List D} {vs : List V} {e : D} {w : V} (r : RepsX K H ω τ p j k ds vs) (h : vs[k]? = some w) (re : Rep K H ω τ (p ++ [j + k]) e w) : Reps K H ω τ p j (ds.set k e) vs := by
  induction r with
  | here b =>
    simp only [List.getElem?_cons_zero, Option.some.injEq] at h
    subst h
    exact .cons re b
  | more a b ih =>
    rw [List.getElem?_cons_succ] at h
    refine .cons a (ih h ?_)
    rename_i j k _ _ _ _ 
    rw [show j + 1 + k = j + (k + 1) by omega]
    exact re
structure Ch (H : Hp) (ω : Om) (τ : List Nat → Own) (t : List Nat) (H' : Hp) (ω' : Om) : Prop where
  tup : TT0 H H'
  own : ∀ a u q, q ≠ t → H a = some u → ω a = some (τ q) → H' a = some u ∧ ω' a = some (τ q)
  frz : ∀ a u, H a = some u → ω a = none → H' a = some u ∧ ω' a = none
theorem Rep.off {t p : List Nat} {d : D} {v : V} (c : Ch H ω τ t H' ω') (hp : ¬ p <+: t) (r : Rep K H ω τ p d v) : Rep K H' ω' τ p d v :=
  r.mvP (P := fun q => ¬ q <+: t) (g := id) ⟨fun p k h z => h (List.IsPrefix.trans (List.prefix_append p [k]) z), fun _ _ _ => rfl, c.tup, fun a u q hq h e => c.own a u q (fun z => hq (by rw [z]; exact List.prefix_refl _)) h e, c.frz⟩ hp
theorem Reps.off {t p : List Nat} {j : Nat} {ds : List D} {vs : List V} (c : Ch H ω τ t H' ω') (hp : ∀ k, j ≤ k → ¬ (p ++ [k]) <+: t) (r : Reps K H ω τ p j ds vs) : Reps K H' ω' τ p j ds vs := by
  induction ds generalizing vs j with
  | nil => cases r; exact .nil
  | cons d ds ih =>
    cases r with
    | cons a b => exact .cons (a.off c (hp j (Nat.le_refl _))) (ih (fun k hk => hp k (by omega)) b)
theorem pre_inj {p t : List Nat} {k k' : Nat} (h1 : (p ++ [k]) <+: t) (h2 : (p ++ [k']) <+: t) : k = k' := by
  obtain ⟨r1, e1⟩ := h1
  obtain ⟨r2, e2⟩ := h2
  have e : p ++ [k] ++ r1 = p ++ [k'] ++ r2 := e1.trans e2.symm
  rw [List.append_assoc, List.append_assoc] at e
  have := List.append_cancel_left e
  simp only [List.singleton_append, List.cons.injEq] at this
  exact this.1
theorem Reps.offX {t p : List Nat} {ds : List D} {vs : List V} (c : Ch H ω τ t H' ω') : ∀ {j k : Nat}, (p ++ [j + k]) <+: t → k < ds.length → Reps K H ω τ p j ds vs → RepsX K H' ω' τ p j k ds vs := by
  induction ds generalizing vs with
  | nil => intro j k _ h _; simp at h
  | cons d ds ih =>
    intro j k hp hk r
    cases r with
    | cons a b =>
      cases k with
      | zero => exact .here (b.off c fun k' hk' z => by have := pre_inj z hp; omega)
      | succ k =>
        refine .more (a.off c fun z => by have := pre_inj z hp; omega) (ih (by rw [show j + 1 + k = j + (k + 1) by omega]; exact hp) (by simpa using hk) b)
theorem off_self {p π : List Nat} {k : Nat} : p ≠ p ++ [k] ++ π := fun z => by
  have := congrArg List.length z
  simp at this
theorem Ch.lstAt {t p : List Nat} {a : Addr} {u : HO} {o : Bool} (c : Ch H ω τ t H' ω') (hp : p ≠ t) (h : H a = some u) (e : ω a = tk o (τ p)) : H' a = some u ∧ ω' a = tk o (τ p) := by
  cases o with
  | true => exact c.own a u p hp h e
  | false => exact c.frz a u h e
theorem Rep.place : ∀ {π p : List Nat} {d e : D} {v : V}, Rep K H ω τ p d v → getP d π = some e → ∃ u, Rep K H ω τ (p ++ π) e u ∧ VA K H v π u ∧ ∀ e' H' ω', Ch H ω τ (p ++ π) H' ω' → Rep K H' ω' τ (p ++ π) e' u → Rep K H' ω' τ p (setP d π e') v
  | [], p, d, e, v, r, h => by
    cases h
    rw [List.append_nil]
    exact ⟨v, r, rfl, fun e' H' ω' _ r' => r'⟩
  | k :: π, p, d, e, v, r, h => by
    unfold getP at h
    cases q : (kids d)[k]? with
    | none => rw [q] at h; cases h
    | some c =>
      rw [q] at h
      simp only at h
      have epp : p ++ (k :: π) = p ++ [k] ++ π := by simp
      have hk : k < (kids d).length := (List.getElem?_eq_some_iff.mp q).1
      have go : ∀ {vs : List V}, Reps K H ω τ p 0 (kids d) vs → ∃ w u, vs[k]? = some w ∧ Rep K H ω τ (p ++ (k :: π)) e u ∧ VA K H w π u ∧ ∀ e' H' ω', Ch H ω τ (p ++ (k :: π)) H' ω' → Rep K H' ω' τ (p ++ (k :: π)) e' u → Reps K H' ω' τ p 0 ((kids d).set k (setP c π e')) vs := fun {vs} rr => by
        obtain ⟨w, hw, rw'⟩ := rr.nth q
        rw [Nat.zero_add] at rw'
        obtain ⟨u, r1, va, back⟩ := Rep.place (π := π) rw' h
        rw [epp]
        refine ⟨w, u, hw, r1, va, fun e' H' ω' ch r' => ?_⟩
        have rx := rr.offX ch (k := k) (by rw [Nat.zero_add]; exact List.prefix_append _ _) hk
        exact rx.set hw (by rw [Nat.zero_add]; exact back e' H' ω' ch r')
      have es : ∀ e', setP d (k :: π) e' = withKids d ((kids d).set k (setP c π e')) := fun e' => by
        conv => lhs; unfold setP
        rw [q]
      cases r with
      | tup h1 rr =>
        obtain ⟨w, u, hw, r1, va, back⟩ := go rr
        refine ⟨u, r1, ⟨_, _, w, rfl, .inr (.inl h1), hw, va⟩, fun e' H' ω' ch r' => ?_⟩
        rw [es]
        exact .tup (h1.elim (fun z => .inl (ch.tup _ _ z)) .inr) (back e' H' ω' ch r')
      | lst h1 h2 rr =>
        obtain ⟨w, u, hw, r1, va, back⟩ := go rr
        refine ⟨u, r1, ⟨_, _, w, rfl, .inl h1, hw, va⟩, fun e' H' ω' ch r' => ?_⟩
        rw [es]
        obtain ⟨z1, z2⟩ := ch.lstAt (by rw [epp]; exact off_self) h1 h2
        exact .lst z1 z2 (back e' H' ω' ch r')
      | ins h1 l h2 rr =>
        obtain ⟨w, u, hw, r1, va, back⟩ := go rr
        refine ⟨u, r1, ⟨_, _, w, rfl, .inr (.inr ⟨_, _, _, h1, l⟩), hw, va⟩, fun e' H' ω' ch r' => ?_⟩
        rw [es]
        obtain ⟨z1, z2⟩ := ch.lstAt (by rw [epp]; exact off_self) h1 h2
        exact .ins z1 l z2 (back e' H' ω' ch r')
      | _ => simp [kids] at q
end
def plw (i : Nat) (p : List Nat) (ω : Om) : Om := fun a => match ω a with
  | some (.res q) => some (.sl i (p ++ q))
  | x => x
section
variable {K : PySem.W.Frag} {R : Nat → Bool} {σ0 σ : L2.St} {st : S} {H : Hp} {ω : Om}
theorem plw_sl {i j : Nat} {p q : List Nat} {a : Addr} (h : ω a = some (.sl j q)) : plw i p ω a = some (.sl j q) := by unfold plw; rw [h]
theorem plw_none {i : Nat} {p : List Nat} {a : Addr} (h : ω a = none) : plw i p ω a = none := by unfold plw; rw [h]
theorem plw_oth {i : Nat} {p : List Nat} {a : Addr} (h : ω a = some .oth) : plw i p ω a = some .oth := by unfold plw; rw [h]
theorem Sim.change {i n : Nat} {π : List Nat} {d : D} {xs : List D} (s : Sim K R σ0 st σ H ω) (h : st[i]? = some (some d)) (hp : getP d π = some (.lst true xs)) :
    ∃ v a vs, σ[i]? = some (some v) ∧ VA K H v π (.ref a) ∧ H a = some (.lst vs) ∧ xs.length = vs.length ∧ Reps K H ω (.sl i) π 0 xs vs ∧
      (∀ vs', Reps K (upd H a (.lst vs')) (plw i (π ++ [n]) ω) (.sl i) π 0 xs vs) ∧
      (∀ vs' dd u, Rep K H ω .res [] dd u → Rep K (upd H a (.lst vs')) (plw i (π ++ [n]) ω) (.sl i) (π ++ [n]) dd u) ∧
      ∀ xs' vs', Reps K (upd H a (.lst vs')) (plw i (π ++ [n]) ω) (.sl i) π 0 xs' vs' → Sim K R σ0 (st.set i (some (setP d π (.lst true xs')))) σ (upd H a (.lst vs')) (plw i (π ++ [n]) ω) ∧ Tr H ω (upd H a (.lst vs')) (plw i (π ++ [n]) ω) := by
  obtain ⟨v, ev, r⟩ := s.at_ i d h
  obtain ⟨u, r1, va, back⟩ := Rep.place r hp
  rw [List.nil_append] at r1 back
  cases r1 with
  | lst h1 h2 h3 =>
    rename_i a vs
    have h2 : ω a = some (.sl i π) := h2
    have tup : ∀ vs', TT0 H (upd H a (.lst vs')) := fun vs' b ws hb => by
      have : b ≠ a := fun z => by rw [z, h1] at hb; cases hb
      rw [upd_ne this]
      exact hb
    have nn : ∀ {b : Addr} {x : Option Own}, ω b = x → x ≠ some (.sl i π) → b ≠ a := fun {b x} e hx z => hx (by rw [← e, z]; exact h2)
    have hnone : ∀ vs' b u, H b = some u → ω b = none → upd H a (.lst vs') b = some u ∧ plw i (π ++ [n]) ω b = none := fun vs' b u hb e =>
      ⟨by rw [upd_ne (nn e (fun z => nomatch z))]; exact hb, plw_none e⟩
    have ch : ∀ vs', Ch H ω (.sl i) π (upd H a (.lst vs')) (plw i (π ++ [n]) ω) := fun vs' => ⟨tup vs', fun b u q hq hb e => ⟨by
        rw [upd_ne (nn e (fun z => by cases z; exact hq rfl))]; exact hb, plw_sl e⟩, hnone vs'⟩
    refine ⟨v, a, vs, ev, va, h1, rep_len h3, h3, fun vs' => ?_, fun vs' dd u rr => ?_, fun xs' vs' rr => ⟨⟨by simp [s.len], fun j dd hj => ?_, s.ref_⟩, ⟨tup vs', fun b u hb e => ?_, fun b hb => ?_⟩⟩⟩
    · exact h3.off (ch vs') fun k _ z => by
        have := List.IsPrefix.length_le z
        simp at this
        omega
    · have := rr.mv (g := fun q => (π ++ [n]) ++ q) (H' := upd H a (.lst vs')) (ω' := plw i (π ++ [n]) ω) (τ' := Own.sl i) ⟨fun p k => by simp, tup vs', fun b u q hb e => ⟨by rw [upd_ne (nn e (fun z => nomatch z))]; exact hb, by unfold plw; rw [e]⟩, hnone vs'⟩
      rw [List.append_nil] at this
      exact this
    · by_cases e : i = j
      · subst e
        have hi : i < st.length := (List.getElem?_eq_some_iff.mp h).1
        rw [List.getElem?_set_self hi] at hj
        cases hj
        exact ⟨v, ev, back _ _ _ (ch vs') (.lst upd_same (plw_sl h2) rr)⟩
      · rw [List.getElem?_set_ne e] at hj
        obtain ⟨v', e', r'⟩ := s.at_ j dd hj
        refine ⟨v', e', r'.mv (g := id) ⟨fun _ _ => rfl, tup vs', fun b u q hb e2 => ⟨by rw [upd_ne (nn e2 (fun z => by cases z; exact e rfl))]; exact hb, plw_sl e2⟩, hnone vs'⟩⟩
    · have hb' : b ≠ a := nn (x := ω b) rfl (fun z => by rcases e with e | e <;> (rw [e] at z; cases z))
      refine ⟨by rw [upd_ne hb']; exact hb, ?_⟩
      rcases e with e | e
      · rw [plw_none e, e]
      · rw [plw_oth e, e]
    · by_cases z : b = a
      · rw [z, upd_same]; exact fun z => nomatch z
      · rw [upd_ne z]; exact hb
end
end SV

namespace SV
open PySem PySem.Spec PyProof.Rows L2
section
variable {C : Ct} {a b c e : Expr} {es : List Expr} {pos : Pos} {x : Str} {H H1 H2 : Hp} {ω ω1 ω2 : Om} {σ : L2.St} {st : S}
theorem ref_set {K : PySem.W.Frag} {R : Nat → Bool} {σ0 : L2.St} {i : Nat} {o : Option D} (s : Sim K R σ0 st σ H ω) (h : ∀ d, o = some d → ∃ v, σ[i]? = some (some v) ∧ Rep K H1 ω1 (.sl i) [] d v) (ht : TT0 H H1)
    (hs : ∀ a u j q, j ≠ i → H a = some u → ω a = some (.sl j q) → H1 a = some u ∧ ω1 a = some (.sl j q)) (hn : ∀ a u, H a = some u → ω a = none → H1 a = some u ∧ ω1 a = none) : Sim K R σ0 (st.set i o) σ H1 ω1 := by
  refine ⟨by simp [s.len], fun j d hj => ?_, s.ref_⟩
  by_cases e : i = j
  · subst e
    by_cases hi : i < st.length
    · rw [List.getElem?_set_self hi] at hj
      cases hj
      exact h d rfl
    · rw [List.getElem?_eq_none (by simpa using hi)] at hj
      cases hj
  · rw [List.getElem?_set_ne e] at hj
    obtain ⟨v, e', r⟩ := s.at_ j d hj
    exact ⟨v, e', r.mv (g := id) ⟨fun _ _ => rfl, ht, fun a u q h e2 => hs a u j q (fun z => e z.symm) h e2, hn⟩⟩
def eMv (i : Nat) : M D := fun st => match st[i]? with
  | some (some d) => .ok d (st.set i none)
  | _ => .stuck
theorem se_mv (i : Nat) {x : Str} {pos : Pos} (hN : C.X.N[i]? = some x := by rfl) (hv : Vis C.X.env.scope x := by first | exact Or.inl rfl | exact Or.inr (Or.inl rfl) | exact Or.inr (Or.inr rfl)) (hd : (x == ("__debug__" : Str)) = false := by decide)
    (hcd : (x == ("__classdict__" : Str)) = false := by decide) : SE C (.Name x pos) (eMv i) := fun st σ H ω Q s p => by
  unfold eMv at p
  split at p
  · rename_i d q
    obtain ⟨v, e, r⟩ := s.at_ i d q
    refine ⟨_, pe_var hN hv hd hcd, v, e, ?_⟩
    refine p v H (rsw i ω) ⟨fun _ _ h => h, fun a u h e => ⟨h, ?_⟩, fun _ h => h⟩ (ref_set s (fun _ z => nomatch z) (fun _ _ h => h) (fun a u j q hj h e => ⟨h, ?_⟩) fun a u h e => ⟨h, ?_⟩) ?_
    · unfold rsw
      rcases e with e | e <;> rw [e]
    · unfold rsw; rw [e]; simp only; rw [if_neg hj]
    · unfold rsw; rw [e]
    · refine r.mv (g := id) ⟨fun _ _ => rfl, fun _ _ h => h, fun a u q h e => ⟨h, ?_⟩, fun a u h e => ⟨h, ?_⟩⟩
      · unfold rsw; rw [e]; simp only [if_true, id_eq]
      · unfold rsw; rw [e]
  · exact p.elim
def eFz (i : Nat) : M D := fun st => match st[i]? with
  | some (some d) => .ok (frz d) (st.set i (some (frz d)))
  | _ => .stuck
def fzs (i : Nat) (ω : Om) : Om := fun a => match ω a with
  | some (.sl j q) => if j = i then none else some (.sl j q)
  | x => x
theorem fzs_n {i : Nat} {a : Addr} (h : ω a = none) : fzs i ω a = none := by unfold fzs; rw [h]
theorem fzs_o {i : Nat} {a : Addr} (h : ω a = some .oth) : fzs i ω a = some .oth := by unfold fzs; rw [h]
theorem fzs_ne {i j : Nat} {q : List Nat} {a : Addr} (hj : j ≠ i) (h : ω a = some (.sl j q)) : fzs i ω a = some (.sl j q) := by unfold fzs; rw [h]; simp only; rw [if_neg hj]
theorem fzs_eq {i : Nat} {q : List Nat} {a : Addr} (h : ω a = some (.sl i q)) : fzs i ω a = none := by unfold fzs; rw [h]; simp only [if_true]
theorem Tr.fzs {i : Nat} : Tr H ω H (SV.fzs i ω) := ⟨fun _ _ h => h, fun a u h e => ⟨h, e.elim (fun e => (fzs_n e).trans e.symm) fun e => (fzs_o e).trans e.symm⟩, fun _ h => h⟩
theorem Sim.fzs {K : PySem.W.Frag} {R : Nat → Bool} {σ0 : L2.St} {i : Nat} {d : D} (s : Sim K R σ0 st σ H ω) (q : st[i]? = some (some d)) : Sim K R σ0 (st.set i (some (frz d))) σ H (SV.fzs i ω) := by
  obtain ⟨v, e, r⟩ := s.at_ i d q
  exact ref_set s (fun d' z => by cases z; exact ⟨v, e, r.fz ⟨fun _ _ h => h, fun a u q h e => ⟨h, fzs_eq e⟩, fun a u h e => ⟨h, fzs_n e⟩⟩⟩) (fun _ _ h => h) (fun a u j q hj h e => ⟨h, fzs_ne hj e⟩) fun a u h e => ⟨h, fzs_n e⟩
theorem se_fz (i : Nat) {x : Str} {pos : Pos} (hN : C.X.N[i]? = some x := by rfl) (hv : Vis C.X.env.scope x := by first | exact Or.inl rfl | exact Or.inr (Or.inl rfl) | exact Or.inr (Or.inr rfl)) (hd : (x == ("__debug__" : Str)) = false := by decide)
    (hcd : (x == ("__classdict__" : Str)) = false := by decide) : SE C (.Name x pos) (eFz i) := fun st σ H ω Q s p => by
  unfold eFz at p
  split at p
  · rename_i d q
    obtain ⟨v, e, r⟩ := s.at_ i d q
    refine ⟨_, pe_var hN hv hd hcd, v, e, ?_⟩
    exact p v H (fzs i ω) Tr.fzs (s.fzs q) (r.fz ⟨fun _ _ h => h, fun a u q h e => ⟨h, fzs_eq e⟩, fun a u h e => ⟨h, fzs_n e⟩⟩)
  · exact p.elim

def eM0 (i : Nat) (f : List D → Option (List D × D)) : M D := fun st => match st[i]? with
  | some (some (.lst true xs)) => (match f xs with
    | some (ys, r) => .ok r (st.set i (some (.lst true ys)))
    | none => .stuck)
  | _ => .stuck
def MtW (X : Cx) (id : String) : V → List V → Hp → VK → Prop := fun x xs H Q => ∃ t, MtR X id t ∧ t x xs H Q
theorem mt_w {X : Cx} {id : String} : MtR X id (MtW X id) := fun pins s σ H x xs v us Q I rx rs ⟨t, ht, h⟩ => ht pins s σ H x xs v us Q I rx rs h
theorem tyV_lst {K : PySem.W.Frag} {a : Addr} {vs : List V} (h : H a = some (.lst vs)) : tyV K "list" (.ref a) H := Or.inl ⟨rfl, _, Or.inl (Or.inl h)⟩
theorem Reps.take {K : PySem.W.Frag} {τ : List Nat → Own} {p : List Nat} : ∀ {ds : List D} {vs : List V} {k n : Nat}, Reps K H ω τ p k ds vs → Reps K H ω τ p k (ds.take n) (vs.take n)
  | [], _, _, _, h => by cases h; simp; exact .nil
  | d :: ds, _, k, 0, h => by simp; exact .nil
  | d :: ds, _, k, n + 1, h => by
    cases h with
    | cons a b => exact .cons a b.take
theorem Reps.drop {K : PySem.W.Frag} {τ : List Nat → Own} {p : List Nat} : ∀ {ds : List D} {vs : List V} {k n : Nat}, Reps K H ω τ p k ds vs → Reps K H ω τ p (k + n) (ds.drop n) (vs.drop n)
  | [], _, _, _, h => by cases h; simp; exact .nil
  | d :: ds, _, k, 0, h => h
  | d :: ds, _, k, n + 1, h => by
    cases h with
    | cons a b =>
      have := Reps.drop (n := n) b
      rw [show k + 1 + n = k + (n + 1) by omega] at this
      exact this
def fReverse : List D → Option (List D × D) := fun xs => if frzdL xs = true then some (xs.reverse, .non) else none
theorem Reps.rev {K : PySem.W.Frag} {τ : List Nat → Own} {p : List Nat} : ∀ {ds : List D} {vs : List V} {k j : Nat}, frzdL ds = true → Reps K H ω τ p k ds vs → Reps K H ω τ p j ds.reverse vs.reverse
  | [], _, _, _, _, h => by cases h; exact .nil
  | d :: ds, _, k, j, hf, h => by
    simp only [frzdL, Bool.and_eq_true] at hf
    cases h with
    | cons a b =>
      rw [List.reverse_cons, List.reverse_cons]
      exact (Reps.rev hf.2 b).append (.cons (a.any (fun _ _ h => h) (fun a u h z => ⟨h, z⟩) hf.1) .nil)
def eM1 (i : Nat) (f : List D → D → Option (List D)) (m : M D) : M D := fun st => match st[i]? with
  | some (some (.lst true _)) => (m st).bind fun d s => (match s[i]? with
    | some (some (.lst true xs)) => (match f xs d with
      | some ys => .ok .non (s.set i (some (.lst true ys)))
      | none => .stuck)
    | _ => .stuck)
  | _ => .stuck
def M1 (X : Cx) (id : String) (n : List D → Nat) (f : List D → D → Option (List D)) : Prop := ∀ (H : Hp) (ω : Om) (i : Nat) (xs ys : List D) (d : D) (w : V), f xs d = some ys → ∀ (a : Addr) (vs : List V), H a = some (.lst vs) →
  (∀ vs', Reps X.K (upd H a (.lst vs')) ω (.sl i) [] 0 xs vs) → (∀ vs', Rep X.K (upd H a (.lst vs')) ω (.sl i) [n xs] d w) → ∃ vs', Reps X.K (upd H a (.lst vs')) ω (.sl i) [] 0 ys vs' ∧ ∀ Q : VK, Q .non (upd H a (.lst vs')) → ∃ t, MtR X id t ∧ t (.ref a) [w] H Q
theorem se_m1 {id : String} {name : Str} {i : Nat} {n : List D → Nat} {f : List D → D → Option (List D)} {m : M D} {pos' apos cpos : Pos} (hf : M1 C.X id n f) (slot : Slot "list" name id) (hty : typeOf (.builtin id) = pure (.type "method_descriptor")) (hm : SE C e m) (hN : C.X.N[i]? = some x := by rfl) (hv : Vis C.X.env.scope x := by first | exact Or.inl rfl | exact Or.inr (Or.inl rfl) | exact Or.inr (Or.inr rfl)) (hd : (x == ("__debug__" : Str)) = false := by decide)
    (hcd : (x == ("__classdict__" : Str)) = false := by decide) (hbase : attributeBase (.Name x pos') name C.X.env (eval (.Name x pos') C.X.env) = eval (.Name x pos') C.X.env := by rfl)
    (hfew : ((backTo cpos (starEach [e] C.X.env)).all (fun x => !x.1) && (backToKw cpos (keywordEach [] C.X.env)).all (fun x => x.1.isSome)
      && decide ([e].length + ([] : List Keyword).length + (if ([] : List Keyword).isEmpty then 0 else 1) < 30)) = true := by rfl)
    (hline : (apos.endLine == cpos.line) = true := by rfl) (hst : starEach [e] C.X.env = [(false, eval e C.X.env)] := by rfl) :
    SE C (.Call (.Attribute (.Name x pos') name apos) [e] [] cpos) (eM1 i f m) := fun st σ H ω Q s p => by
  refine ⟨_, pe_bm PySem.F.plainAttrs_list slot hty mt_w (pe_var hN hv hd hcd) (pa_wl ⟨hst, trivial⟩) hbase hfew hline hst rfl, ?_⟩
  unfold eM1 at p
  split at p
  · rename_i xs0 q0
    obtain ⟨v0, e0, r0⟩ := s.at_ i _ q0
    cases r0 with
    | lst h0 _ _ =>
      refine ⟨_, e0, tyV_lst h0, ?_⟩
      show WE C.X e σ H _
      refine hm.then s p (fun _ _ _ p => p) (fun p => p) fun d s1 p v H1 ω1 t1 sm1 r1 => ?_
      split at p
      · rename_i xs q
        split at p
        · rename_i ys z
          obtain ⟨v', a, vs, ev, va, hH, hl, rr, c1, c2, c3⟩ := sm1.change (n := n xs) (π := []) q rfl
          cases va
          rw [e0] at ev
          cases ev
          obtain ⟨vs', k1, k2⟩ := hf H1 (plw i ([] ++ [n xs]) ω1) i xs ys d v z _ vs hH c1 (fun vs' => c2 vs' d v r1)
          refine k2 Q ?_
          obtain ⟨sm, tr⟩ := c3 ys vs' k1
          exact p .non _ _ (t1.trans tr) sm .non
        · exact p.elim
      · exact p.elim
  · exact p.elim
def fApp (xs : List D) (d : D) : Option (List D) := if xs.length < 100000 then some (xs ++ [d]) else none
theorem m1_append {X : Cx} : M1 X "list.append" List.length fApp := by
  intro H ω i xs ys d w e a vs hH rr rw'
  unfold fApp at e
  split at e
  · rename_i hz
    cases e
    have hl := rep_len (rr vs)
    refine ⟨vs ++ [w], (rr _).snoc (by rw [Nat.zero_add]; exact rw' _), fun Q k => ⟨_, mt_append, a, vs, w, rfl, rfl, hH, ?_, k⟩⟩
    rw [← hl]
    exact Nat.lt_of_lt_of_le (Nat.lt_of_lt_of_le hz (Nat.le_refl _)) (by decide)
  · cases e
end
end SV

namespace SV
open PySem PySem.Spec PyProof.Rows L2
section
variable {C : Ct} {a b c e : Expr} {es : List Expr} {pos : Pos} {x : Str} {H H1 H2 : Hp} {ω ω1 ω2 : Om} {σ : L2.St} {st s1 s2 : S} {K : PySem.W.Frag} {R : Nat → Bool} {σ0 : L2.St}
def keepW (H1 : Hp) (ω1 ω2 : Om) : Om := fun a => match H1 a, ω1 a with
  | some _, some (.res q) => some (.res q)
  | _, _ => fzw ω2 a
theorem keepW_res {a : Addr} {u : HO} {q : List Nat} (h : H1 a = some u) (e : ω1 a = some (.res q)) : keepW H1 ω1 ω2 a = some (.res q) := by unfold keepW; rw [h, e]
theorem keepW_ne {a : Addr} (h : H1 a = none ∨ ∀ q, ω1 a ≠ some (.res q)) : keepW H1 ω1 ω2 a = fzw ω2 a := by
  unfold keepW
  rcases h with h | h
  · rw [h]
  · cases q : H1 a with
    | none => rfl
    | some u =>
      cases z : ω1 a with
      | none => rfl
      | some y =>
        cases y with
        | res q => exact absurd z (h q)
        | sl i p => rfl
        | oth => rfl
theorem keepW_of {a : Addr} (t : Tr H1 (hide ω1) H2 ω2) (h : ω2 a ≠ some .oth) : keepW H1 ω1 ω2 a = fzw ω2 a := by
  refine keepW_ne ?_
  cases q : H1 a with
  | none => exact .inl rfl
  | some u => exact .inr fun p z => h (((t.keep a u q (.inr (hide_res z))).2).trans (hide_res z))
theorem Tr.keepW (t1 : Tr H ω H1 ω1) (t2 : Tr H1 (hide ω1) H2 ω2) : Tr H ω H2 (SV.keepW H1 ω1 ω2) := by
  have t := (t1.hid.trans t2).fzw
  refine ⟨t.tup, fun a u h e => ?_, t.dom⟩
  obtain ⟨h2, e2⟩ := t.keep a u h e
  refine ⟨h2, ?_⟩
  obtain ⟨h1, e1⟩ := t1.keep a u h e
  rw [keepW_ne (.inr fun q z => ?_)]
  · exact e2
  · rw [e1] at z
    rcases e with e | e <;> (rw [e] at z; cases z)
theorem Sim.keepW (t2 : Tr H1 (hide ω1) H2 ω2) (s : Sim K R σ0 st σ H2 ω2) : Sim K R σ0 st σ H2 (SV.keepW H1 ω1 ω2) :=
  s.mv (fun _ _ h => h) (fun a u i q h e => ⟨h, (keepW_of t2 (by rw [e]; exact fun z => nomatch z)).trans (fzw_sl e)⟩) fun a u h e => ⟨h, (keepW_of t2 (by rw [e]; exact fun z => nomatch z)).trans (fzw_none e)⟩
theorem Rep.keepW {d : D} {v : V} {p : List Nat} (t2 : Tr H1 (hide ω1) H2 ω2) (r : Rep K H1 ω1 .res p d v) : Rep K H2 (SV.keepW H1 ω1 ω2) .res p d v :=
  r.mv (g := id) ⟨fun _ _ => rfl, t2.tup, fun a u q h e => ⟨(t2.keep a u h (.inr (hide_res e))).1, keepW_res h e⟩, fun a u h e => by
    obtain ⟨h2, e2⟩ := t2.keep a u h (.inl (hide_none e))
    exact ⟨h2, (keepW_ne (.inr fun q z => by rw [e] at z; cases z)).trans (fzw_none (e2.trans (hide_none e)))⟩⟩

theorem Reps.setV {τ : List Nat → Own} {p : List Nat} : ∀ {ds : List D} {vs : List V} {j k : Nat} {e : D} {w : V}, Reps K H ω τ p j ds vs → Rep K H ω τ (p ++ [j + k]) e w → Reps K H ω τ p j (ds.set k e) (vs.set k w)
  | [], _, _, _, _, _, r, _ => by cases r; exact .nil
  | d :: ds, _, j, 0, e, w, r, re => by
    cases r with
    | cons a b => exact .cons re b
  | d :: ds, _, j, k + 1, e, w, r, re => by
    cases r with
    | cons a b =>
      rw [show j + (k + 1) = j + 1 + k by omega] at re
      exact .cons a (b.setV re)
def setIx (s : S) (i : Nat) (k : D) (d : D) : Option S := match s[i]?, k with
  | some (some (.lst true xs)), .int k => (ixN xs.length k).map fun j => s.set i (some (.lst true (xs.set j d)))
  | _, _ => none
def sSub (i : Nat) (mk : M Opd) (m : M D) : M Fl := fun st => (m st).bind fun d s => match s[i]? with
  | some (some _) => (mk s).bind fun o s' => (match getO s' o with
    | some k => (match setIx s' i k d with
      | some s2 => .ok .nx s2
      | none => .stuck)
    | none => .stuck)
  | _ => .stuck
theorem ss_sub {i : Nat} {mk : M Opd} {m : M D} {p2 p3 : Pos} (hk : SO C b mk) (hm : SE C e m) (hN : C.X.N[i]? = some x := by rfl) (hv : Vis C.X.env.scope x := by first | exact Or.inl rfl | exact Or.inr (Or.inl rfl) | exact Or.inr (Or.inr rfl)) (hd : (x == ("__debug__" : Str)) = false := by decide)
    (hcd : (x == ("__classdict__" : Str)) = false := by decide)
    (ha : ∀ v, assign (.Subscript (.Name x p2) b p3) C.X.env v = (do
      let ov ← holding [v] (eval (.Name x p2) C.X.env)
      let iv ← holding [v, ov] (eval b C.X.env)
      standAt p3
      holding [v, ov, iv] (setItem ov iv v)
      release [v, ov, iv] []) := by intro _; rfl)
    (hs : swapsWithSole [.Subscript (.Name x p2) b p3] e pos.line C.X.env = pure false := by rfl) (hw : swappedStores [.Subscript (.Name x p2) b p3] e C.X.env = pure none := by rfl)
    (h1 : (assignEach [.Subscript (.Name x p2) b p3] C.X.env).map (·.2) = [assign (.Subscript (.Name x p2) b p3) C.X.env] := by rfl) : SS C (.Assign [.Subscript (.Name x p2) b p3] e pos) (sSub i mk m) := fun st σ H ω N s p => by
  refine ⟨_, ps_asg pe_w (pg_sub (pe_var hN hv hd hcd) pe_w set_list ha) hs hw h1, ?_⟩
  refine hm.then (P := PostS C H ω N) s p (fun _ _ _ p => p) (fun p => p) fun d s1 p v H1 ω1 t1 sm1 r1 => ?_
  split at p
  · rename_i d0 q0
    obtain ⟨v0, e0, r0⟩ := sm1.at_ i _ q0
    refine ⟨v0, e0, ?_⟩
    refine hk.then (P := PostS C H ω N) sm1.hid p (fun _ _ _ p => PX.pre t1.hid p) (fun p => p) fun o s2 p w H2 ω2 t2 sm2 r2 => ?_
    cases q1 : getO s2 o with
    | none => rw [q1] at p; exact p.elim
    | some k =>
      rw [q1] at p
      simp only at p
      cases q2 : setIx s2 i k d with
      | none => rw [q2] at p; exact p.elim
      | some s3 =>
        rw [q2] at p
        unfold setIx at q2
        split at q2
        · rename_i xs kk q3
          obtain ⟨w', us, ee, hw', _⟩ := r2.vw1 sm2 q1
          cases ee
          cases hw'.int
          cases q4 : ixN xs.length kk with
          | none => rw [q4] at q2; cases q2
          | some j =>
            rw [q4] at q2
            cases q2
            have t3 := t1.keepW t2
            have sm3 := sm2.keepW t2
            have r3 := r1.keepW t2
            obtain ⟨v', a, vs, ev, va, hH, hl, rr, c1, c2, c3⟩ := sm3.change (n := j) (π := []) q3 rfl
            cases va
            rw [e0] at ev
            cases ev
            refine ⟨_, vs, kk, j, rfl, rfl, hH, by rw [← hl]; exact q4, ?_⟩
            obtain ⟨sm, tr⟩ := c3 (xs.set j d) (vs.set j v) ((c1 _).setV (by rw [Nat.zero_add]; exact c2 _ d v r3))
            exact p _ _ _ (t3.trans tr) sm
        · cases q2
  · exact p.elim
def setAll : S → List Nat → List D → S
  | st, i :: is, d :: ds => setAll (st.set i (some d)) is ds
  | st, _, _ => st
def setV : L2.St → List Nat → List V → L2.St
  | σ, i :: is, v :: vs => setV (σ.set i (some v)) is vs
  | σ, _, _ => σ
def parw (is : List Nat) (ω : Om) : Om := fun a => match ω a with
  | some (.res (j :: q)) => (match is[j]? with
    | some i => some (.sl i q)
    | none => none)
  | some (.res []) => none
  | x => x
theorem parw_n {is : List Nat} {a : Addr} (h : ω a = none) : parw is ω a = none := by unfold parw; rw [h]
theorem parw_o {is : List Nat} {a : Addr} (h : ω a = some .oth) : parw is ω a = some .oth := by unfold parw; rw [h]
theorem parw_sl {is : List Nat} {a : Addr} {i q} (h : ω a = some (.sl i q)) : parw is ω a = some (.sl i q) := by unfold parw; rw [h]
theorem parw_at {j i : Nat} {is : List Nat} {a : Addr} {q : List Nat} (h : ω a = some (.res (j :: q))) (e : is[j]? = some i) : parw is ω a = some (.sl i q) := by
  unfold parw
  rw [h]
  simp only [e]
theorem Tr.parw {is : List Nat} : Tr H ω H (SV.parw is ω) := ⟨fun _ _ h => h, fun a u h e => ⟨h, e.elim (fun e => (parw_n e).trans e.symm) fun e => (parw_o e).trans e.symm⟩, fun _ h => h⟩
theorem setAll_len : ∀ {is : List Nat} {ds : List D} {st : S}, (setAll st is ds).length = st.length
  | [], ds, st => by cases ds <;> rfl
  | i :: is, [], st => rfl
  | i :: is, d :: ds, st => by
    show (setAll (st.set i (some d)) is ds).length = _
    rw [setAll_len, List.length_set]
theorem setV_len : ∀ {is : List Nat} {ds : List V} {st : L2.St}, (setV st is ds).length = st.length
  | [], ds, st => by cases ds <;> rfl
  | i :: is, [], st => rfl
  | i :: is, d :: ds, st => by
    show (setV (st.set i (some d)) is ds).length = _
    rw [setV_len, List.length_set]
theorem setAll_at : ∀ {is : List Nat} {ds : List D} {vs : List V} {st : S} {σ : L2.St} {j : Nat} {dd : D}, ds.length = vs.length → st.length = σ.length → (setAll st is ds)[j]? = some (some dd) →
    (∃ (k : Nat) (v : V), is[k]? = some j ∧ ds[k]? = some dd ∧ vs[k]? = some v ∧ (setV σ is vs)[j]? = some (some v)) ∨ (st[j]? = some (some dd) ∧ (setV σ is vs)[j]? = σ[j]?)
  | [], ds, vs, st, σ, j, dd, _, _, h => by cases ds <;> cases vs <;> exact .inr ⟨h, rfl⟩
  | i :: is, [], vs, st, σ, j, dd, hl, _, h => by
    cases vs with
    | nil => exact .inr ⟨h, rfl⟩
    | cons _ _ => simp at hl
  | i :: is, d :: ds, [], st, σ, j, dd, hl, _, h => by simp at hl
  | i :: is, d :: ds, v :: vs, st, σ, j, dd, hl, hs, h => by
    have h : (setAll (st.set i (some d)) is ds)[j]? = some (some dd) := h
    rcases setAll_at (vs := vs) (σ := σ.set i (some v)) (by simpa using hl) (by simp [hs]) h with ⟨k, w, h1, h2, h3, h4⟩ | ⟨h1, h2⟩
    · exact .inl ⟨k + 1, w, by simpa using h1, by simpa using h2, by simpa using h3, h4⟩
    · by_cases e : i = j
      · subst e
        by_cases hi : i < st.length
        · rw [List.getElem?_set_self hi] at h1
          cases h1
          refine .inl ⟨0, v, rfl, rfl, rfl, ?_⟩
          show (setV (σ.set i (some v)) is vs)[i]? = _
          rw [h2, List.getElem?_set_self (by rw [← hs]; exact hi)]
        · rw [List.getElem?_eq_none (by simpa using hi)] at h1
          cases h1
      · rw [List.getElem?_set_ne e] at h1
        refine .inr ⟨h1, ?_⟩
        show (setV (σ.set i (some v)) is vs)[j]? = _
        rw [h2, List.getElem?_set_ne e]
theorem setV_ne : ∀ {is : List Nat} {vs : List V} {σ : L2.St} {j : Nat}, j ∉ is → (setV σ is vs)[j]? = σ[j]?
  | [], vs, σ, j, _ => by cases vs <;> rfl
  | i :: is, [], σ, j, _ => rfl
  | i :: is, v :: vs, σ, j, h => by
    simp only [List.mem_cons, not_or] at h
    show (setV (σ.set i (some v)) is vs)[j]? = _
    rw [setV_ne h.2, List.getElem?_set_ne (fun z => h.1 z.symm)]
theorem Sim.par {ds : List D} {vs : List V} {is : List Nat} (s : Sim K R σ0 st σ H ω) (hR : ∀ i ∈ is, R i = false) (r : Reps K H ω .res [] 0 ds vs) : Sim K R σ0 (setAll st is ds) (setV σ is vs) H (parw is ω) := by
  refine ⟨by rw [setAll_len, setV_len, s.len], fun j dd hj => ?_, fun j hj => ?_⟩
  · rcases setAll_at (rep_len r) s.len hj with ⟨k, v, h1, h2, h3, h4⟩ | ⟨h1, h2⟩
    · obtain ⟨v', hv, rv⟩ := r.nth h2
      rw [h3] at hv
      cases hv
      refine ⟨v, h4, ?_⟩
      rw [Nat.zero_add, List.nil_append] at rv
      exact rv.mvP (P := fun q => ∃ q', q = k :: q') (g := List.tail) ⟨fun p j ⟨q', e⟩ => ⟨q' ++ [j], by rw [e]; rfl⟩, fun p j ⟨q', e⟩ => by rw [e]; rfl, fun _ _ h => h, fun a u q ⟨q', e'⟩ h e => ⟨h, by rw [e'] at e ⊢; exact parw_at e h1⟩, fun a u h e => ⟨h, parw_n e⟩⟩ ⟨[], rfl⟩
    · obtain ⟨v, e, r'⟩ := s.at_ j dd h1
      exact ⟨v, by rw [h2]; exact e, r'.mv (g := id) ⟨fun _ _ => rfl, fun _ _ h => h, fun a u q h e => ⟨h, parw_sl e⟩, fun a u h e => ⟨h, parw_n e⟩⟩⟩
  · rw [setV_ne (fun z => by rw [hR j z] at hj; cases hj)]
    exact s.ref_ j hj
def sPar (is : List Nat) (ms : M (List Opd)) : M Fl := fun st => (ms st).bind fun os s => match keepL s os with
  | some ds => if ds.length = is.length then .ok .nx (setAll s is ds) else .stuck
  | none => .stuck
theorem par_run {is : List Nat} {ms : M (List Opd)} {st : S} {N : Ends} (hR : ∀ i ∈ is, C.R i = false) (hm : SA C es ms) (s : C.Sim st σ H ω) (p : PostS C H ω N (sPar is ms st)) {Q : List V → Hp → Prop} (hQ : ∀ vs H1, vs.length = is.length → N.nx (setV σ is vs) H1 → Q vs H1) : WL C.X es σ H Q := by
  refine hm 0 st σ H ω _ s ?_
  unfold sPar at p
  cases q : ms st with
  | stuck => rw [q] at p; exact p
  | exc x w s1 => rw [q] at p; exact p
  | ok os s1 =>
    rw [q] at p
    simp only [bind_ok] at p
    intro vs H1 ω1 t1 sm1 r1
    cases e1 : keepL s1 os with
    | none => rw [e1] at p; exact p.elim
    | some ds =>
      rw [e1] at p
      by_cases hz : ds.length = is.length
      · simp only [hz, if_true] at p
        have r := OReps.keep sm1 r1 e1
        exact hQ vs H1 (by rw [← rep_len r]; exact hz) (p _ H1 _ (t1.trans Tr.parw) (sm1.par hR r))
      · simp only [hz, if_false] at p
        exact p.elim
theorem ss_par (k : C.Ok lv) {i j : Nat} {y : Str} {ms : M (List Opd)} {px py pt : Pos} {kt k2 pt2} (hm : SA C [a, b] ms) (hi : C.X.N[i]? = some x := by rfl) (hj : C.X.N[j]? = some y := by rfl) (hij : i ≠ j := by decide)
    (hx : C.X.env.scope.names.lookup x = some .local := by rfl) (hy : C.X.env.scope.names.lookup y = some .local := by rfl) (hRi : C.R i = false := by rfl) (hRj : C.R j = false := by rfl) (hst : StarOk C.X.env [a, b] := by repeat' (first | exact trivial | exact rfl | constructor))
    (hw : swappedStores [.Tuple [.Name x px, .Name y py] kt pt] (.Tuple [a, b] k2 pt2) C.X.env = pure (some [x, y]) := by rfl)
    (hs : swapsWithSole [.Tuple [.Name x px, .Name y py] kt pt] (.Tuple [a, b] k2 pt2) pos.line C.X.env = pure false := by rfl) : SS C (.Assign [.Tuple [.Name x px, .Name y py] kt pt] (.Tuple [a, b] k2 pt2) pos) (sPar [i, j] ms) := fun st σ H ω N s p => by
  refine ⟨_, ps_par k.calm k.nd hi hj hij hx hy (pa_wl hst) hw hs, ?_⟩
  refine par_run (is := [i, j]) (fun q hq => by simp only [List.mem_cons, List.not_mem_nil, or_false] at hq; rcases hq with rfl | rfl <;> assumption) hm s p fun vs H1 hl q => ?_
  match vs, hl with
  | [v, w], _ => exact ⟨v, w, rfl, q⟩
theorem ss_par3 (k : C.Ok lv) {i j l : Nat} {y z : Str} {ms : M (List Opd)} {px py pz pt : Pos} {kt k2 pt2} (hm : SA C [a, b, c] ms) (hi : C.X.N[i]? = some x := by rfl) (hj : C.X.N[j]? = some y := by rfl) (hl : C.X.N[l]? = some z := by rfl) (hij : i ≠ j := by decide) (hil : i ≠ l := by decide) (hjl : j ≠ l := by decide)
    (hx : C.X.env.scope.names.lookup x = some .local := by rfl) (hy : C.X.env.scope.names.lookup y = some .local := by rfl) (hz : C.X.env.scope.names.lookup z = some .local := by rfl) (hRi : C.R i = false := by rfl) (hRj : C.R j = false := by rfl) (hRl : C.R l = false := by rfl) (hst : StarOk C.X.env [a, b, c] := by repeat' (first | exact trivial | exact rfl | constructor))
    (hw : swappedStores [.Tuple [.Name x px, .Name y py, .Name z pz] kt pt] (.Tuple [a, b, c] k2 pt2) C.X.env = pure (some [x, y, z]) := by rfl)
    (hs : swapsWithSole [.Tuple [.Name x px, .Name y py, .Name z pz] kt pt] (.Tuple [a, b, c] k2 pt2) pos.line C.X.env = pure false := by rfl) : SS C (.Assign [.Tuple [.Name x px, .Name y py, .Name z pz] kt pt] (.Tuple [a, b, c] k2 pt2) pos) (sPar [i, j, l] ms) := fun st σ H ω N s p => by
  refine ⟨_, ps_par3 k.calm k.nd hi hj hl hij hil hjl hx hy hz (pa_wl hst) hw hs, ?_⟩
  refine par_run (is := [i, j, l]) (fun q hq => by simp only [List.mem_cons, List.not_mem_nil, or_false] at hq; rcases hq with rfl | rfl | rfl <;> assumption) hm s p fun vs H1 hl q => ?_
  match vs, hl with
  | [v, w, u], _ => exact ⟨v, w, u, rfl, q⟩
def sUnp (is : List Nat) (m : M D) : M Fl := fun st => (m st).bind fun d s => match d with
  | .tup ds => if ds.length = is.length then .ok .nx (setAll s is ds) else .stuck
  | _ => .stuck
def fIsB : List D → Option D
  | [.bl a, .bl b] => some (.bl (decide (a = b)))
  | _ => none
def fNotB : List D → Option D
  | [.bl a, .bl b] => some (.bl (!decide (a = b)))
  | _ => none
def crange (lo c : Int) (n : Nat) : List D := (List.range n).map fun (i : Nat) => .int (lo + i * c)
def rgN (i j c : Int) : Nat := (Builtin.Range.rangeSize i j c).toNat
def rgOk (i j c : Int) : Bool := decide (c ≠ 0) && decide (c.natAbs < 1073741824) && Builtin.Range.small i j c && decide (0 ≤ Builtin.Range.rangeSize i j c)
def iRng3 (ms : M (List Opd)) : M (List D) := fun st => (ms st).bind fun os s => match getL s os with
  | some [.int i, .int j, .int c] => if rgOk i j c = true then .ok (crange i c (rgN i j c)) s else .stuck
  | _ => .stuck
end
end SV

namespace SV
open PySem PySem.Spec PyProof.Rows L2
theorem two_add : ∀ ds r, fAdd ds = some r → ds.length = 2 := fun ds r e => by unfold fAdd at e; split at e <;> first | rfl | cases e
theorem two_sub : ∀ ds r, fSub ds = some r → ds.length = 2 := fun ds r e => by unfold fSub at e; split at e <;> first | rfl | cases e
theorem two_mul : ∀ ds r, fMul ds = some r → ds.length = 2 := fun ds r e => by unfold fMul at e; split at e <;> first | rfl | cases e
theorem two_div : ∀ ds r, fDiv ds = some r → ds.length = 2 := fun ds r e => by unfold fDiv at e; split at e <;> first | rfl | cases e
theorem two_mod : ∀ ds r, fMod ds = some r → ds.length = 2 := fun ds r e => by unfold fMod at e; split at e <;> first | rfl | cases e
theorem two_pow : ∀ ds r, fPow ds = some r → ds.length = 2 := fun ds r e => by unfold fPow at e; split at e <;> first | rfl | cases e
theorem two_cmp {p : Int → Int → Bool} : ∀ ds r, fCmp p ds = some r → ds.length = 2 := fun ds r e => by unfold fCmp at e; split at e <;> first | rfl | cases e
theorem two_fLt : ∀ ds r, fLt ds = some r → ds.length = 2 := two_cmp
theorem two_fGt : ∀ ds r, fGt ds = some r → ds.length = 2 := two_cmp
theorem two_fGe : ∀ ds r, fGe ds = some r → ds.length = 2 := two_cmp
theorem two_fEq : ∀ ds r, fEq ds = some r → ds.length = 2 := fun ds r e => by unfold fEq at e; split at e <;> first | rfl | cases e
theorem two_fNe : ∀ ds r, fNe ds = some r → ds.length = 2 := fun ds r e => by unfold fNe at e; split at e <;> first | rfl | cases e
theorem two_fIs : ∀ ds r, fIs ds = some r → ds.length = 2 := fun ds r e => by unfold fIs at e; split at e <;> first | rfl | cases e
def fuel : Nat := 1000000000
section
variable {C : Ct} {pos : Pos}
def sBrk : M Fl := fun st => .ok .bk st
def sCnt : M Fl := fun st => .ok .ct st
end
end SV

namespace SV
open PySem PySem.Spec PyProof.Rows L2
theorem cx_no {P : Program} : ∀ (w : World) (H : Hp) (s : Shared) (e : Value) (s' : Shared), L2.CX P w [] H s (fun _ _ _ => False) e s' → False := fun w H s e s' ⟨_, _, _, _, _, _, _, _, _, _, _, _, h⟩ => h
theorem reps_ints {K : PySem.W.Frag} {H : Hp} {ω : Om} {τ : List Nat → Own} {p : List Nat} : ∀ {ns : List Int} {k : Nat}, Reps K H ω τ p k (ns.map D.int) (ns.map V.int)
  | [], _ => .nil
  | _ :: _, _ => .cons .int reps_ints
theorem frz_ints : ∀ {ns : List Int}, frzdL (ns.map D.int) = true
  | [] => rfl
  | _ :: r => (Bool.and_eq_true _ _).mpr ⟨rfl, frz_ints (ns := r)⟩
theorem law_callG {P : Program} {w : World} {K : PySem.W.Frag} {mg mb : Str → Option Value} {CX : CXT} {k : Nat} {fa L : Addr} {fd : FuncData} {x : Str} {sp : Sp} {s : Shared} {us : List Value} {ns : List Int}
    (kin : K.In s.heap) (hG : s.heap.Ns mainGlobals mg) (hB : s.heap.Ns builtinsNs mb) (hbb : ∀ y : Str, y ≠ "__name__" → mb y = bootBuiltins y) (lim : s.heap.NoLimit) (gens : s.gens = #[])
    (eL : s.heap.get? L = some { cls := .type "list", data := .seq us.toArray }) (hi : IntsAre us ns) (hn : ns.length ≤ sizeLine) (room : RoomG k callerA)
    (F : ∀ base : Heap, K.In base → base.Ns mainGlobals mg → FnG P w K mg base CX k fa fd [x] sp) (bnd : ∀ (s' : Shared) (v : Value), BindsTo s' fd ⟨[v], []⟩ [(x, v)])
    (hsp : ∀ H : Hp, SqL K H L (ns.map V.int) → sp [.ref L] H (fun v _ => v = .bl true) fun _ _ _ => False) (hX : ∀ H e s', CX [] H s (fun _ _ _ => False) e s' → False) :
    codeAny (model P w) callerA (.call (.ref fa) ⟨[.ref L], []⟩) (fun r s' => r = .ok (.ret (.bool true)) ∧ OldK s.heap s'.heap ∧ s'.os = s.os ∧ AllBare s'.gens) s := by
  let top : Obj := { cls := .type "list", data := .seq us.toArray }
  have rel : Vals (ns.map V.int) us := vals_ints hi
  suffices core : ∀ H : Hp, (∀ b u, H b = some u → b = L ∧ u = .frz top (.lst (ns.map V.int)) ∧ K.lookup L = none) → SqL K H L (ns.map V.int) →
      codeAny (model P w) callerA (.call (.ref fa) ⟨[.ref L], []⟩) (fun r s' => r = .ok (.ret (.bool true)) ∧ OldK s.heap s'.heap ∧ s'.os = s.os ∧ AllBare s'.gens) s by
    by_cases hk : K.lookup L = none
    · refine core (fun b => if b = L then some (.frz top (.lst (ns.map V.int))) else none) (fun b u z => ?_) (.inl (.inr ⟨top, if_pos rfl⟩))
      have z1 : (if b = L then some (HO.frz top (.lst (ns.map V.int))) else none) = some u := z
      split at z1
      · rename_i hb
        exact ⟨hb, (Option.some.inj z1).symm, hk⟩
      · cases z1
    · obtain ⟨o, ho⟩ := Option.ne_none_iff_exists'.mp hk
      have e := kin L o ho
      rw [eL] at e
      cases e
      exact core (fun _ => none) (fun _ _ z => nomatch z) (.inr ⟨_, us.toArray, _, ho, rfl, rfl, rfl, (by rw [List.size_toArray, hi.length]; exact hn), rel⟩)
  intro H one sq
  have notL : ∀ {b : Addr} {o : Obj}, s.heap.get? b = some o → o ≠ top → H b = none := fun {b o} e ne => by
    cases z : H b with
    | none => rfl
    | some u =>
      obtain ⟨eb, _, _⟩ := one b u z
      rw [eb, eL] at e
      exact (ne (Option.some.inj e).symm).elim
  have dictNe : ∀ {o : Obj} {es : Array DictEntry} {n : Nat}, o.data = .dict es n → o ≠ top := fun d e => by
    rw [e] at d
    exact nomatch (show Data.seq us.toArray _ = Data.dict _ _ from d)
  have nsH : ∀ {b : Addr} {m : Str → Option Value}, s.heap.Ns b m → (hidT s.heap H).Ns b m := fun ⟨o, es, n, e, d, r⟩ => ⟨o, es, n, hidT_get e (notL e (dictNe d)), d, r⟩
  have kinH : K.In (hidT s.heap H) := fun b o e => hidT_get (kin b o e) (by
    cases z : H b with
    | none => rfl
    | some u =>
      obtain ⟨eb, _, n⟩ := one b u z
      rw [eb, n] at e
      cases e)
  have hok : HOk P w H s.heap := fun b u z => by
    obtain ⟨rfl, rfl, _⟩ := one b u z
    exact ⟨eL, by rw [List.length_map]; exact hn, us, _, rel, eL⟩
  have lim' : (hidT s.heap H).NoLimit := by
    obtain ⟨mc, h1, h2⟩ := lim
    exact ⟨mc, nsH h1, h2⟩
  have env : Env0 P w K mg (hidT s.heap H) callerA [] s H :=
    { frames := rfl, mod := ⟨kinH, nsH hG, ⟨mb, nsH hB, hbb⟩, lim'⟩, bs := fun _ _ e => of_hidT e, bsz := Nat.le_of_eq (hidT_size _ _), funs := trivial, frf := (fun _ z => nomatch z), hok := hok, bare := .of_eq gens }
  refine codeAny_mono ((F _ kinH (nsH hG)).go callerA [] s H ⟨[.ref L], []⟩ [.ref L] [.ref L] _ _ room env (bnd s (.ref L)) (.cons rfl .nil) (hsp H sq)) fun r s' h => ?_
  match r, h with
  | .error e, h => exact (hX H e s' h).elim
  | .ok (.ret u), h =>
    obtain ⟨v, H2, os, bare, un, hok2, ru, rfl⟩ := h
    obtain rfl : u = Value.bool true := ru
    refine ⟨rfl, OldK.of_keep fun b o e => ?_, os, bare⟩
    cases z : H b with
    | none => exact un.keep b o e z (fun q => nomatch q) (by simp)
    | some u =>
      obtain ⟨_, rfl, _⟩ := one b u z
      obtain ⟨e1, _⟩ := hok b _ z
      obtain ⟨e2, _⟩ := hok2 b _ (un.frzs b _ _ z)
      rw [e] at e1
      rw [e2, ← Option.some.inj e1]
  | .ok .next, h => exact False.elim h
  | .ok .brk, h => exact False.elim h
  | .ok .cont, h => exact False.elim h
def LawG (l : PySem.W.OpenLaw) (w : World) (K : PySem.W.Frag) (k n : Nat) (x : Str) (mg : Str → Option Value) (fa : Addr) : Prop :=
  ∃ (fd : FuncData) (Φ : List D → Cr), (∀ (s : Shared) (v : Value), BindsTo s fd ⟨[v], []⟩ [(x, v)]) ∧ (∀ base : Heap, K.In base → base.Ns mainGlobals mg → FnG l.prog w K mg base (L2.CX l.prog w) k fa fd [x] (spF K [false] Φ)) ∧
    ∀ ns : List Int, ns.length ≤ n → (∀ z ∈ ns, Builtin.Int.intBits z ≤ 1048576) → Φ [.ro (ns.map D.int)] = .ok (.bl true) []
theorem law_at {l : PySem.W.OpenLaw} {w : World} {K : PySem.W.Frag} {k n : Nat} {x : Str} {mg : Str → Option Value} {fa : Addr} {Φ : List D → Cr}
    (F : ∃ fd : FuncData, (∀ (s : Shared) (v : Value), BindsTo s fd ⟨[v], []⟩ [(x, v)]) ∧ ∀ base : Heap, K.In base → base.Ns mainGlobals mg → FnG l.prog w K mg base (L2.CX l.prog w) k fa fd [x] (spF K [false] Φ))
    (T : ∀ ns : List Int, ns.length ≤ n → (∀ z ∈ ns, Builtin.Int.intBits z ≤ 1048576) → Φ [.ro (ns.map D.int)] = .ok (.bl true) []) : LawG l w K k n x mg fa := by
  obtain ⟨fd, hb, hF⟩ := F
  exact ⟨fd, Φ, hb, hF, T⟩
theorem walk_G {l : PySem.W.OpenLaw} {n k : Nat} {q : Program} {loose : List Str} {XP : (Str → Option Value) → Heap → Prop} {YP : World → Heap → Prop} {d : DefRec} {x : Str}
    (hn : l.most = some n) (hn2 : n ≤ sizeLine) (hdf : d.params.defaults = []) (room : RoomG k callerA)
    (F : ∀ (w : World) (mg : Str → Option Value) (fa : Addr) (h : Heap), YP w h → h.Ns mainGlobals mg → mg d.name = some (.ref fa) → ∃ K : PySem.W.Frag, K.In h ∧ LawG l w K k n x mg fa) :
    PySem.W.WalkO q loose XP YP l.row.toRowW d [] (fun f vs => PySem.call f vs) := by
  refine Att.attach_callB hn hdf ?_
  intro w s₀ s₁ mg mb fa o pm cd doc a vs ns G Y _ _ _ hmg hobj hints hlen hbits hg
  obtain ⟨K, kin, fd, Φ, bnd, hF, T⟩ := F w mg fa _ Y G.T.g hmg
  refine law_callG kin G.T.g G.T.b G.T.builtins G.T.nolimit hg hobj hints (Nat.le_trans hlen hn2) room hF bnd (fun H hS => ?_) fun H e s' => cx_no w H s₁ e s'
  refine ⟨fun _ => none, [.ro (ns.map D.int)], .cons (fun _ => frz_ints) (.ro (hS.imp (fun h => ⟨h, rfl⟩) id) reps_ints) .nil, ?_⟩
  rw [T ns hlen hbits]
  intro v H' ω' _ _ r
  cases r
  rfl
end SV

namespace SV
open PySem
section
variable {α β : Type} {st : S} {i : Nat} {d e : D} {a b : Int}
@[simp] theorem r_sNil : sNil st = .ok .nx st := (rfl)
@[simp] theorem r_sSeq {m n : M Fl} : sSeq m n st = (m st).bind fun f s => match f with
  | .nx => n s
  | f => .ok f s := (rfl)
@[simp] theorem r_sSet {m : M D} : sSet i m st = (m st).bind fun d s => .ok .nx (s.set i (some d)) := (rfl)
@[simp] theorem r_sRet {m : M D} : sRet m st = (m st).bind fun d s => .ok (.rt d) s := (rfl)
@[simp] theorem r_sRetV : sRetV i st = match st[i]? with
  | some (some d) => .ok (.rt d) (st.set i none)
  | _ => .stuck := (rfl)
@[simp] theorem r_sRetN : sRetN st = .ok (.rt .non) st := (rfl)
@[simp] theorem r_sEx {m : M D} : sEx m st = (m st).bind fun _ s => .ok .nx s := (rfl)
@[simp] theorem r_sBrk : sBrk st = .ok .bk st := (rfl)
@[simp] theorem r_sCnt : sCnt st = .ok .ct st := (rfl)
@[simp] theorem r_sIf {t : M Bool} {m n : M Fl} : sIf t m n st = (t st).bind fun b s => if b = true then m s else n s := (rfl)
@[simp] theorem r_sAug {f : List D → Option D} {m : M D} : sAug i f m st = match st[i]? with
  | some (some (.int k)) => (m st).bind fun d s => (match f [.int k, d] with
    | some r => .ok .nx (s.set i (some r))
    | none => .stuck)
  | _ => .stuck := (rfl)
@[simp] theorem r_sSub {mk : M Opd} {m : M D} : sSub i mk m st = (m st).bind fun d s => match s[i]? with
  | some (some _) => (mk s).bind fun o s' => (match getO s' o with
    | some k => (match setIx s' i k d with
      | some s2 => .ok .nx s2
      | none => .stuck)
    | none => .stuck)
  | _ => .stuck := (rfl)
@[simp] theorem r_sPar {is : List Nat} {ms : M (List Opd)} : sPar is ms st = (ms st).bind fun os s => match keepL s os with
  | some ds => if ds.length = is.length then .ok .nx (setAll s is ds) else .stuck
  | none => .stuck := (rfl)
@[simp] theorem r_sUnp {is : List Nat} {m : M D} : sUnp is m st = (m st).bind fun d s => match d with
  | .tup ds => if ds.length = is.length then .ok .nx (setAll s is ds) else .stuck
  | _ => .stuck := (rfl)
@[simp] theorem r_sFor {g : D → S → Option S} {m : M (List D)} {b : M Fl} : sFor g m b st = (m st).bind fun ys s => forL g b ys s := (rfl)
@[simp] theorem r_setAll0 {is : List Nat} : setAll st is [] = st := by cases is <;> rfl
@[simp] theorem r_setAll1 {is : List Nat} {ds : List D} : setAll st (i :: is) (d :: ds) = setAll (st.set i (some d)) is ds := (rfl)
@[simp] theorem r_tB {m : M D} : tB m st = (m st).bind fun d s => match d with
  | .bl b => .ok b s
  | _ => .stuck := (rfl)
@[simp] theorem r_tTr {m : M Opd} : tTr m st = (m st).bind fun o s => match (getO s o).bind truD with
  | some b => .ok b s
  | none => .stuck := (rfl)
@[simp] theorem r_tNot {m : M Bool} : tNot m st = (m st).bind fun b s => .ok (!b) s := (rfl)
@[simp] theorem r_tAnd {m n : M Bool} : tAnd m n st = (m st).bind fun b s => if b = true then n s else .ok false s := (rfl)
@[simp] theorem r_tOr {m n : M Bool} : tOr m n st = (m st).bind fun b s => if b = true then .ok true s else n s := (rfl)
@[simp] theorem r_tYes : tYesM st = .ok true st := (rfl)
@[simp] theorem r_eC : eC d st = .ok d st := (rfl)
@[simp] theorem r_eN : eN i st = match st[i]? with
  | some (some d) => if frzd d = true then .ok d st else .stuck
  | _ => .stuck := (rfl)
@[simp] theorem r_eMv : eMv i st = match st[i]? with
  | some (some d) => .ok d (st.set i none)
  | _ => .stuck := (rfl)
@[simp] theorem r_eFz : eFz i st = match st[i]? with
  | some (some d) => .ok (frz d) (st.set i (some (frz d)))
  | _ => .stuck := (rfl)
@[simp] theorem r_oV {m : M D} : oV m st = (m st).bind fun d s => .ok (.v d) s := (rfl)
@[simp] theorem r_oS : oS i st = match st[i]? with
  | some (some _) => .ok (.s i) st
  | _ => .stuck := (rfl)
@[simp] theorem r_aNil : aNil st = .ok [] st := (rfl)
@[simp] theorem r_aCons {m : M Opd} {ms : M (List Opd)} : aCons m ms st = (m st).bind fun o s1 => (ms s1).bind fun os s2 => .ok (o :: os) s2 := (rfl)
@[simp] theorem r_getOv : getO st (.v d) = some d := (rfl)
@[simp] theorem r_getOs : getO st (.s i) = (st[i]?).join := (rfl)
@[simp] theorem r_getL0 : getL st [] = some [] := (rfl)
@[simp] theorem r_getL1 {o : Opd} {os : List Opd} : getL st (o :: os) = match getO st o, getL st os with
    | some d, some ds => some (d :: ds)
    | _, _ => none := (rfl)
@[simp] theorem r_keepL0 : keepL st [] = some [] := (rfl)
@[simp] theorem r_keepLv {os : List Opd} : keepL st (.v d :: os) = (keepL st os).map (d :: ·) := (rfl)
@[simp] theorem r_keepLs {os : List Opd} : keepL st (.s i :: os) = match (st[i]?).join, keepL st os with
    | some d, some ds => if frzd d = true then some (d :: ds) else none
    | _, _ => none := (rfl)
@[simp] theorem r_opS {f : List D → Option D} {ms : M (List Opd)} : opS f ms st = (ms st).bind fun os s => match getL s os with
  | some ds => (match f ds with
    | some r => .ok r s
    | none => .stuck)
  | none => .stuck := (rfl)
@[simp] theorem r_e2 {f : List D → Option D} {ma mb : M Opd} : e2 f ma mb st = opS f (aCons ma (aCons mb aNil)) st := (rfl)
@[simp] theorem r_e2A {f : List D → Option D} {ma mb : M Opd} : e2A f ma mb st = opA f (aCons ma (aCons mb aNil)) st := (rfl)
@[simp] theorem r_opA {f : List D → Option D} {ms : M (List Opd)} : opA f ms st = (ms st).bind fun os s => match tops s os with
  | some ds => (match f ds with
    | some r => .ok r s
    | none => .stuck)
  | none => .stuck := (rfl)
@[simp] theorem r_tops0 : tops st [] = some [] := (rfl)
@[simp] theorem r_tops1 {o : Opd} {os : List Opd} : tops st (o :: os) = match getO st o, tops st os with
    | some d, some ds => if okT o d = true then some (frz d :: ds) else none
    | _, _ => none := (rfl)
@[simp] theorem r_okTv : okT (.v e) d = true := (rfl)
@[simp] theorem r_okTs : okT (.s i) d = frzd (topF d) := (rfl)
@[simp] theorem r_okOv : okO (.v e) d = true := (rfl)
@[simp] theorem r_okOs : okO (.s i) d = frzd d := (rfl)
@[simp] theorem r_eIx {ma mb : M Opd} : eIx ma mb st = (aCons ma (aCons mb aNil) st).bind fun os s => match os with
  | [a, b] => (match getO s a, getO s b with
    | some x, some y => (match ixD x y with
      | some r => if okO a r = true then .ok (frz r) s else .stuck
      | none => .stuck)
    | _, _ => .stuck)
  | _ => .stuck := (rfl)
@[simp] theorem r_eTup {ms : M (List Opd)} : eTup ms st = (ms st).bind fun os s => match keepL s os with
  | some ds => if ds.length ≤ 100000 then .ok (.tup ds) s else .stuck
  | none => .stuck := (rfl)
@[simp] theorem r_eLst {ms : M (List Opd)} : eLst ms st = (ms st).bind fun os s => match keepL s os with
  | some ds => if ds.length ≤ 100000 then .ok (.lst true ds) s else .stuck
  | none => .stuck := (rfl)
@[simp] theorem r_eAnd {m n : M D} : eAnd m n st = (m st).bind fun d s => match d with
  | .bl true => n s
  | .bl false => .ok (.bl false) s
  | _ => .stuck := (rfl)
@[simp] theorem r_eOr {m n : M D} : eOr m n st = (m st).bind fun d s => match d with
  | .bl true => .ok (.bl true) s
  | .bl false => n s
  | _ => .stuck := (rfl)
@[simp] theorem r_eNot {m : M D} : eNot m st = (m st).bind fun d s => match d with
  | .bl b => .ok (.bl (!b)) s
  | _ => .stuck := (rfl)
@[simp] theorem r_eNeg {m : M D} : eNeg m st = (m st).bind fun d s => match d with
  | .int i => .ok (.int (-i)) s
  | _ => .stuck := (rfl)
@[simp] theorem r_eIf {t : M Bool} {m n : M D} : eIf t m n st = (t st).bind fun b s => if b = true then m s else n s := (rfl)
@[simp] theorem r_eM0 {f : List D → Option (List D × D)} : eM0 i f st = match st[i]? with
  | some (some (.lst true xs)) => (match f xs with
    | some (ys, r) => .ok r (st.set i (some (.lst true ys)))
    | none => .stuck)
  | _ => .stuck := (rfl)
@[simp] theorem r_eM1 {f : List D → D → Option (List D)} {m : M D} : eM1 i f m st = match st[i]? with
  | some (some (.lst true _)) => (m st).bind fun d s => (match s[i]? with
    | some (some (.lst true xs)) => (match f xs d with
      | some ys => .ok .non (s.set i (some (.lst true ys)))
      | none => .stuck)
    | _ => .stuck)
  | _ => .stuck := (rfl)
@[simp] theorem r_eLc {vs : List Nat} {g : D → S → Option S} {m : M (List D)} {t : M Bool} {n : M D} : eLc vs g m t n st = (m st).bind fun ys s => if ys.length ≤ 100000 then (lcL vs g t n ys (wipeS s vs)).bind fun ds s' => .ok (.lst true ds) s' else .stuck := (rfl)
@[simp] theorem r_iRng {ms : M (List Opd)} : SV.iRng ms st = (ms st).bind fun os s => match getL s os with
  | some [.int j] => if j.natAbs < 4611686018427387904 then .ok (irange 0 j.toNat) s else .stuck
  | some [.int i, .int j] => if i.natAbs < 4611686018427387904 ∧ j.natAbs < 4611686018427387904 then .ok (irange i (j - i).toNat) s else .stuck
  | _ => .stuck := (rfl)
@[simp] theorem r_iRng3 {ms : M (List Opd)} : SV.iRng3 ms st = (ms st).bind fun os s => match getL s os with
  | some [.int i, .int j, .int c] => if rgOk i j c = true then .ok (crange i c (rgN i j c)) s else .stuck
  | _ => .stuck := (rfl)
@[simp] theorem r_iSeq {m : M Opd} : iSeq m st = (m st).bind fun o s => match getO s o with
  | some d => if okO o d = true then (match seqD (frz d) with
      | some ys => .ok ys s
      | none => .stuck) else .stuck
  | none => .stuck := (rfl)
@[simp] theorem r_iZip {ma mb : M Opd} : SV.iZip ma mb st = (aCons ma (aCons mb aNil) st).bind fun os s => match os with
  | [oa, ob] => (match getO s oa, getO s ob with
    | some d, some d' => if okO oa d = true ∧ okO ob d' = true then (match zipD (frz d) (frz d') with
        | some ys => .ok ys s
        | none => .stuck) else .stuck
    | _, _ => .stuck)
  | _ => .stuck := (rfl)
@[simp] theorem r_iEnum {m : M Opd} : SV.iEnum m st = (m st).bind fun o s => match getO s o with
  | some d => if okO o d = true then (match lstOf (frz d) with
      | some ys => .ok (enumL 0 ys) s
      | none => .stuck) else .stuck
  | none => .stuck := (rfl)
@[simp] theorem r_eCall {modes : List Bool} {Φ : List D → Cr} {ms : M (List Opd)} : eCall modes Φ ms st = (ms st).bind fun os s => match argsOf s modes os with
  | some ds => if apartOk (refsOf 0 modes os) (brwOf s modes os) = true then callEnd modes os (brwOf s modes os) s (Φ ds) else .stuck
  | none => .stuck := (rfl)
@[simp] theorem r_argsOf0 : argsOf st [] [] = some [] := (rfl)
@[simp] theorem r_argsOf1 {m : Bool} {ms : List Bool} {o : Opd} {os : List Opd} : argsOf st (m :: ms) (o :: os) = match getO st o, argsOf st ms os with
    | some d, some ds => some ((if m = true then d else frz d) :: ds)
    | _, _ => none := (rfl)
@[simp] theorem r_refs0 {j : Nat} : refsOf j [] [] = [] := (rfl)
@[simp] theorem r_refs1 {j : Nat} {ms : List Bool} {os : List Opd} : refsOf j (true :: ms) (.s i :: os) = (i, j) :: refsOf (j + 1) ms os := (rfl)
@[simp] theorem r_refs2 {j : Nat} {ms : List Bool} {os : List Opd} : refsOf j (true :: ms) (.v d :: os) = refsOf (j + 1) ms os := (rfl)
@[simp] theorem r_refs3 {j : Nat} {ms : List Bool} {o : Opd} {os : List Opd} : refsOf j (false :: ms) (o :: os) = refsOf (j + 1) ms os := by cases o <;> rfl
@[simp] theorem r_brw0 : brwOf st [] [] = [] := (rfl)
@[simp] theorem r_brw1 {ms : List Bool} {os : List Opd} : brwOf st (false :: ms) (.s i :: os) = match getO st (.s i) with
    | some d => if frzd d = true then brwOf st ms os else i :: brwOf st ms os
    | none => i :: brwOf st ms os := (rfl)
@[simp] theorem r_brw2 {ms : List Bool} {os : List Opd} : brwOf st (false :: ms) (.v d :: os) = brwOf st ms os := (rfl)
@[simp] theorem r_brw3 {ms : List Bool} {o : Opd} {os : List Opd} : brwOf st (true :: ms) (o :: os) = brwOf st ms os := by cases o <;> rfl
@[simp] theorem r_putB0 : putB [] [] [] st = st := (rfl)
@[simp] theorem r_putB1 {ms : List Bool} {os : List Opd} {p : D} {ps : List D} : putB (true :: ms) (.s i :: os) (p :: ps) st = putB ms os ps (st.set i (some p)) := (rfl)
@[simp] theorem r_putB2 {ms : List Bool} {os : List Opd} {p : D} {ps : List D} : putB (true :: ms) (.v d :: os) (p :: ps) st = putB ms os ps st := (rfl)
@[simp] theorem r_putB3 {ms : List Bool} {o : Opd} {os : List Opd} {ps : List D} : putB (false :: ms) (o :: os) ps st = putB ms os ps st := by cases o <;> cases ps <;> rfl
@[simp] theorem r_putBx {ms : List Bool} : putB [] [] ([] : List D) st = st := (rfl)
@[simp] theorem r_callEnd {modes : List Bool} {os : List Opd} {brw : List Nat} {ps : List D} : callEnd modes os brw st (.ok d ps) = if endOk brw d ps = true then .ok d (putB modes os ps st) else .stuck := (rfl)
@[simp] theorem r_endOk0 {ps : List D} : endOk [] d ps = true := (rfl)
@[simp] theorem r_endOk1 {b : Nat} {bs : List Nat} {ps : List D} : endOk (b :: bs) d ps = (nofz d && nofzL ps) := (rfl)
@[simp] theorem r_ap {refs : List (Nat × Nat)} {brw : List Nat} : apartOk refs brw = (decide ((refs.map (·.1)).Nodup) && refs.all fun r => !brw.contains r.1) := (rfl)
@[simp] theorem r_gN : gN i d st = some (st.set i (some d)) := (rfl)
@[simp] theorem r_gNil : gNil [] st = some st := (rfl)
@[simp] theorem r_gCons {g : D → S → Option S} {h : List D → S → Option S} {r : List D} : gCons g h (d :: r) st = (g d st).bind (h r) := (rfl)
@[simp] theorem r_gTup {n : Nat} {g : List D → S → Option S} {r : List D} : gTup n g (.tup r) st = if r.length = n then g r st else none := (rfl)
@[simp] theorem r_wipe0 : wipeS st [] = st := (rfl)
@[simp] theorem r_wipe1 {v : Nat} {vs : List Nat} : wipeS st (v :: vs) = (wipeS st vs).set v none := (rfl)
@[simp] theorem z_non : frz .non = .non := (rfl)
@[simp] theorem z_bl {b : Bool} : frz (.bl b) = .bl b := (rfl)
@[simp] theorem z_int : frz (.int a) = .int a := (rfl)
@[simp] theorem z_str {x : Str} : frz (.str x) = .str x := (rfl)
@[simp] theorem z_fn {x : Str} : frz (.fn x) = .fn x := (rfl)
@[simp] theorem z_ty {x : String} : frz (.ty x) = .ty x := (rfl)
@[simp] theorem z_tup {xs : List D} : frz (.tup xs) = .tup (frzL xs) := (rfl)
@[simp] theorem z_lst {o : Bool} {xs : List D} : frz (.lst o xs) = .lst false (frzL xs) := (rfl)
@[simp] theorem z_ro {xs : List D} : frz (.ro xs) = .ro (frzL xs) := (rfl)
@[simp] theorem z_nil : frzL [] = [] := (rfl)
@[simp] theorem z_cons {xs : List D} : frzL (d :: xs) = frz d :: frzL xs := (rfl)
@[simp] theorem zd_non : frzd .non = true := (rfl)
@[simp] theorem zd_bl {b : Bool} : frzd (.bl b) = true := (rfl)
@[simp] theorem zd_int : frzd (.int a) = true := (rfl)
@[simp] theorem zd_str {x : Str} : frzd (.str x) = true := (rfl)
@[simp] theorem zd_fn {x : Str} : frzd (.fn x) = true := (rfl)
@[simp] theorem zd_ty {x : String} : frzd (.ty x) = true := (rfl)
@[simp] theorem zd_tup {xs : List D} : frzd (.tup xs) = frzdL xs := (rfl)
@[simp] theorem zd_lst {o : Bool} {xs : List D} : frzd (.lst o xs) = (!o && frzdL xs) := (rfl)
@[simp] theorem zd_ro {xs : List D} : frzd (.ro xs) = frzdL xs := (rfl)
@[simp] theorem zd_nil : frzdL [] = true := (rfl)
@[simp] theorem zd_cons {xs : List D} : frzdL (d :: xs) = (frzd d && frzdL xs) := (rfl)
@[simp] theorem nz_non : nofz .non = true := (rfl)
@[simp] theorem nz_bl {b : Bool} : nofz (.bl b) = true := (rfl)
@[simp] theorem nz_int : nofz (.int a) = true := (rfl)
@[simp] theorem nz_str {x : Str} : nofz (.str x) = true := (rfl)
@[simp] theorem nz_tup {xs : List D} : nofz (.tup xs) = nofzL xs := (rfl)
@[simp] theorem nz_lst {o : Bool} {xs : List D} : nofz (.lst o xs) = (o && nofzL xs) := (rfl)
@[simp] theorem nz_nil : nofzL [] = true := (rfl)
@[simp] theorem nz_cons {xs : List D} : nofzL (d :: xs) = (nofz d && nofzL xs) := (rfl)
@[simp] theorem tf_lst {o : Bool} {xs : List D} : topF (.lst o xs) = .lst false xs := (rfl)
@[simp] theorem tf_tup {xs : List D} : topF (.tup xs) = .tup xs := (rfl)
@[simp] theorem tf_ro {xs : List D} : topF (.ro xs) = .ro xs := (rfl)
@[simp] theorem tf_int : topF (.int a) = .int a := (rfl)
@[simp] theorem tf_str {x : Str} : topF (.str x) = .str x := (rfl)
@[simp] theorem tf_bl {b : Bool} : topF (.bl b) = .bl b := (rfl)
@[simp] theorem it_lst {o : Bool} {xs : List D} : items (.lst o xs) = some xs := (rfl)
@[simp] theorem it_tup {xs : List D} : items (.tup xs) = some xs := (rfl)
@[simp] theorem it_ro {xs : List D} : items (.ro xs) = some xs := (rfl)
@[simp] theorem lo_lst {o : Bool} {xs : List D} : lstOf (.lst o xs) = some xs := (rfl)
@[simp] theorem lo_ro {xs : List D} : lstOf (.ro xs) = some xs := (rfl)
@[simp] theorem sd_lst {o : Bool} {xs : List D} : seqD (.lst o xs) = some xs := (rfl)
@[simp] theorem sd_ro {xs : List D} : seqD (.ro xs) = some xs := (rfl)
@[simp] theorem sd_tup {xs : List D} : seqD (.tup xs) = some xs := (rfl)
@[simp] theorem f_add : fAdd [.int a, .int b] = some (.int (a + b)) := (rfl)
@[simp] theorem f_sub : fSub [.int a, .int b] = some (.int (a - b)) := (rfl)
@[simp] theorem f_addI : fAddI [.int a, .int b] = some (.int (a + b)) := (rfl)
@[simp] theorem f_mul : fMul [.int a, .int b] = if mulOk a b = true then some (.int (a * b)) else none := (rfl)
@[simp] theorem f_div : fDiv [.int a, .int b] = if b ≠ 0 ∧ b.natAbs < 1073741824 ∨ 0 < b ∧ b.natAbs.log2 < 9000 then some (.int (a.fdiv b)) else none := (rfl)
@[simp] theorem f_mod : fMod [.int a, .int b] = if b ≠ 0 then some (.int (a.fmod b)) else none := (rfl)
@[simp] theorem f_pow : fPow [.int a, .int b] = if 0 ≤ b ∧ b.natAbs ≤ 1000000 ∧ a.natAbs < 2 ^ 64 then some (.int (a ^ b.toNat)) else none := (rfl)
@[simp] theorem f_shl : fShl [.int a, .int b] = if 0 ≤ b ∧ b.natAbs ≤ 1000000 ∧ a.natAbs < 2 ^ 64 then some (.int (a * 2 ^ b.toNat)) else none := (rfl)
@[simp] theorem f_lt : fLt [.int a, .int b] = some (.bl (decide (a < b))) := (rfl)
@[simp] theorem f_le : fLe [.int a, .int b] = some (.bl (decide (a ≤ b))) := (rfl)
@[simp] theorem f_gt : fGt [.int a, .int b] = some (.bl (decide (b < a))) := (rfl)
@[simp] theorem f_ge : fGe [.int a, .int b] = some (.bl (decide (b ≤ a))) := (rfl)
@[simp] theorem g_addI : gAdd [.int a, .int b] = some (.int (a + b)) := (rfl)
@[simp] theorem g_addL {o o' : Bool} {xs ys : List D} : gAdd [.lst o xs, .lst o' ys] = if frzdL xs = true ∧ frzdL ys = true ∧ xs.length + ys.length ≤ 100000 then some (.lst true (xs ++ ys)) else none := (rfl)
@[simp] theorem g_addT {xs ys : List D} : gAdd [.tup xs, .tup ys] = if frzdL xs = true ∧ frzdL ys = true ∧ xs.length + ys.length ≤ 100000 then some (.tup (xs ++ ys)) else none := (rfl)
@[simp] theorem g_mulI : gMul [.int a, .int b] = if mulOk a b = true then some (.int (a * b)) else none := (rfl)
@[simp] theorem g_mulL {o : Bool} {xs : List D} : gMul [.lst o xs, .int b] = if frzdL xs = true ∧ b.natAbs < 9223372036854775808 ∧ xs.length * b.toNat ≤ 100000 then some (.lst true (repD b.toNat xs)) else none := (rfl)
@[simp] theorem f_abs : fAbs [.int a] = some (.int (if a < 0 then -a else a)) := (rfl)
@[simp] theorem f_max : fMax2 [.int a, .int b] = some (.int (if b > a then b else a)) := (rfl)
@[simp] theorem f_min : fMin2 [.int a, .int b] = some (.int (if b < a then b else a)) := (rfl)
@[simp] theorem f_intI : fInt [.int a] = some (.int a) := (rfl)
@[simp] theorem f_intB {k : Bool} : fInt [.bl k] = some (.int (if k then 1 else 0)) := (rfl)
@[simp] theorem f_lenL {o : Bool} {xs : List D} : fLen [.lst o xs] = some (.int xs.length) := (rfl)
@[simp] theorem f_lenT {xs : List D} : fLen [.tup xs] = some (.int xs.length) := (rfl)
@[simp] theorem f_lenR {xs : List D} : fLen [.ro xs] = some (.int xs.length) := (rfl)
@[simp] theorem f_isi {T : String} : fIsi [d, .ty T] = match tyOf d with
    | some t => if isIn T = true then some (.bl (isB t T)) else none
    | none => none := by cases d <;> rfl
@[simp] theorem f_isi2 {T U : String} : fIsi [d, .tup [.ty T, .ty U]] = match tyOf d with
    | some t => if isIn T = true ∧ isIn U = true then some (.bl (isB t T || isB t U)) else none
    | none => none := by cases d <;> rfl
@[simp] theorem ix_lstI {o : Bool} {xs : List D} : ixD (.lst o xs) (.int a) = L2.atI xs a := (rfl)
@[simp] theorem ix_tupI {xs : List D} : ixD (.tup xs) (.int a) = L2.atI xs a := (rfl)
@[simp] theorem ix_roI {xs : List D} : ixD (.ro xs) (.int a) = L2.atI xs a := (rfl)
@[simp] theorem f_isBB {a b : Bool} : fIsB [.bl a, .bl b] = some (.bl (decide (a = b))) := (rfl)
@[simp] theorem f_notBB {a b : Bool} : fNotB [.bl a, .bl b] = some (.bl (!decide (a = b))) := (rfl)
@[simp] theorem f_app {xs : List D} : fApp xs d = if xs.length < 100000 then some (xs ++ [d]) else none := (rfl)
@[simp] theorem tr_bl {b : Bool} : truD (.bl b) = some b := (rfl)
@[simp] theorem tr_int : truD (.int a) = some (a != 0) := (rfl)
end
theorem atI_pos {α : Type} {xs : List α} {n : Nat} : L2.atI xs (n : Int) = xs[n]? := by
  unfold L2.atI L2.ixN
  rw [if_pos (by omega)]
  by_cases h : (n : Int) < xs.length
  · rw [if_pos h]; simp
  · rw [if_neg h]
    simp only [Option.bind_none]
    rw [List.getElem?_eq_none (by omega)]
theorem atI_0 {α : Type} {x : α} {xs : List α} : L2.atI (x :: xs) 0 = some x := atI_pos (n := 0)
theorem atI_1 {α : Type} {x y : α} {xs : List α} : L2.atI (x :: y :: xs) 1 = some y := atI_pos (n := 1)
theorem atI_2 {α : Type} {x y z : α} {xs : List α} : L2.atI (x :: y :: z :: xs) 2 = some z := atI_pos (n := 2)
structure Bx (n : Nat) (d : D) : Prop where
  ex : ∃ a b c : Int, d = .lst true [.int a, .int b, .int c] ∧ 0 ≤ a ∧ 0 ≤ b ∧ b ≤ 2 ^ 40 ∧ 0 ≤ c ∧ c ≤ n
end SV

namespace SV
open PySem
@[simp] theorem b_nil {st : S} : backs [] st = some [] := by cases st <;> rfl
@[simp] theorem b_true {ms : List Bool} {d : D} {st : S} : backs (true :: ms) (some d :: st) = (backs ms st).map (d :: ·) := (rfl)
@[simp] theorem b_false {ms : List Bool} {o : Option D} {st : S} : backs (false :: ms) (o :: st) = backs ms st := (rfl)
@[simp] theorem r_run {modes : List Bool} {n : Nat} {m : M Fl} {ds : List D} : runDef modes n m ds = match m (SV.start n ds) with
  | .ok f st => (match backs modes st, f with
    | some ps, .rt d => .ok d ps
    | some ps, .nx => .ok .non ps
    | _, _ => .stuck)
  | .exc x w st => (match backs modes st with
    | some ps => .exc x w ps
    | none => .stuck)
  | .stuck => .stuck := (rfl)
@[simp] theorem r_setIx {s : S} {i : Nat} {k : Int} {d : D} : setIx s i (.int k) d = match s[i]? with
  | some (some (.lst true xs)) => (L2.ixN xs.length k).map fun j => s.set i (some (.lst true (xs.set j d)))
  | _ => none := by
  unfold setIx
  split <;> simp_all
theorem forL_cons {g : D → S → Option S} {b : M Fl} {d : D} {r : List D} {st : S} : forL g b (d :: r) st = match g d st with
    | none => .stuck
    | some s => (b s).bind fun f s' => match f with
      | .nx => forL g b r s'
      | .ct => forL g b r s'
      | .bk => .ok .nx s'
      | .rt d => .ok (.rt d) s' := rfl
theorem sWhile_succ {t : M Bool} {b : M Fl} {n : Nat} {st : S} : sWhile t b (n + 1) st = (t st).bind fun c s => if c = true then ((b s).bind fun f s' => match f with
      | .nx => sWhile t b n s'
      | .ct => sWhile t b n s'
      | .bk => .ok .nx s'
      | .rt d => .ok (.rt d) s') else .ok .nx s := rfl
theorem lcL_cons' {vs : List Nat} {g : D → S → Option S} {t : M Bool} {m : M D} {y : D} {ys : List D} {st s s1 s2 : S} {d : D} (h1 : g y st = some s) (h2 : t s = .ok true s1) (h3 : m s1 = .ok d s2) : lcL vs g t m (y :: ys) st = (lcL vs g t m ys (wipeS s2 vs)).map (d :: ·) := by
  rw [lcL_cons, h1]
  simp only [h2, h3]
theorem lcL_skip {vs : List Nat} {g : D → S → Option S} {t : M Bool} {m : M D} {y : D} {ys : List D} {st s s1 : S} (h1 : g y st = some s) (h2 : t s = .ok false s1) : lcL vs g t m (y :: ys) st = lcL vs g t m ys (wipeS s1 vs) := by
  rw [lcL_cons, h1]
  simp only [h2]
@[simp] theorem r_map {α β : Type} {f : α → β} {a : α} {st : S} : (Rs.ok a st).map f = .ok (f a) st := (rfl)
theorem lc_map {vs : List Nat} {g : D → S → Option S} {t : M Bool} {m : M D} {f : D → D} : ∀ {ys : List D} {st : S}, (∀ y ∈ ys, ∃ s s1 s2, g y st = some s ∧ t s = .ok true s1 ∧ m s1 = .ok (f y) s2 ∧ wipeS s2 vs = st) → lcL vs g t m ys st = .ok (ys.map f) st
  | [], st, _ => rfl
  | y :: ys, st, h => by
    obtain ⟨s, s1, s2, h1, h2, h3, h4⟩ := h y List.mem_cons_self
    rw [lcL_cons' h1 h2 h3, h4, lc_map fun y hy => h y (List.mem_cons_of_mem _ hy)]
    rfl
theorem lc_filter {vs : List Nat} {g : D → S → Option S} {t : M Bool} {m : M D} {f : D → D} {p : D → Bool} : ∀ {ys : List D} {st : S}, (∀ y ∈ ys, ∃ s s1, g y st = some s ∧ t s = .ok (p y) s1 ∧ (p y = true → ∃ s2, m s1 = .ok (f y) s2 ∧ wipeS s2 vs = st) ∧ (p y = false → wipeS s1 vs = st)) → lcL vs g t m ys st = .ok ((ys.filter p).map f) st
  | [], st, _ => rfl
  | y :: ys, st, h => by
    obtain ⟨s, s1, h1, h2, h3, h4⟩ := h y List.mem_cons_self
    have ih := lc_filter (ys := ys) (st := st) (f := f) (p := p) (vs := vs) (g := g) (t := t) (m := m) fun y hy => h y (List.mem_cons_of_mem _ hy)
    cases q : p y with
    | true =>
      obtain ⟨s2, h5, h6⟩ := h3 q
      rw [q] at h2
      rw [lcL_cons' h1 h2 h5, h6, ih, List.filter_cons_of_pos q]
      rfl
    | false =>
      rw [q] at h2
      rw [lcL_skip h1 h2, h4 q, ih, List.filter_cons_of_neg (by simp [q])]
theorem eqv_refl : (∀ d : D, plainD d = true → PyData.eqv (toPy d) (toPy d) = true) := by
  intro d
  induction d using D.rec (motive_2 := fun ds => plainL ds = true → PyData.eqvAll (toPyL ds) (toPyL ds) = true) with
  | non => intro _; simp [toPy, PyData.eqv]
  | bl b => intro _; simp [toPy, PyData.eqv]
  | int i => intro _; simp [toPy, PyData.eqv]
  | str x => intro _; simp [toPy, PyData.eqv]
  | fn | ty | dct | dz | ins | xc => intro h; simp [plainD] at h
  | tup xs ih => intro h; simp only [toPy, PyData.eqv]; exact ih h
  | lst o xs ih => intro h; simp only [toPy, PyData.eqv]; exact ih h
  | ro xs ih => intro h; simp only [toPy, PyData.eqv]; exact ih h
  | nil => rename_i h; simp [toPyL, PyData.eqvAll]
  | cons d r h1 h2 =>
    rename_i h
    simp only [plainL, Bool.and_eq_true] at h
    simp [toPyL, PyData.eqvAll, h1 h.1, h2 h.2]
@[simp] theorem eq_int {a b : Int} : fEq [.int a, .int b] = some (.bl (decide (a = b))) := by
  have e : fEq [.int a, .int b] = some (.bl (PyData.eqv (.int a) (.int b))) := rfl
  rw [e]
  simp only [PyData.eqv]
  rfl
@[simp] theorem ne_int {a b : Int} : fNe [.int a, .int b] = some (.bl (!decide (a = b))) := by
  have e : fNe [.int a, .int b] = some (.bl (!PyData.eqv (.int a) (.int b))) := rfl
  rw [e]
  simp only [PyData.eqv]
  rfl
@[simp] theorem eq_bl {a b : Bool} : fEq [.bl a, .bl b] = some (.bl (decide (a = b))) := by cases a <;> cases b <;> rfl
@[simp] theorem ne_bl {a b : Bool} : fNe [.bl a, .bl b] = some (.bl (!decide (a = b))) := by cases a <;> cases b <;> rfl
theorem eq_same {d : D} (h : plainD d = true) (hd : dep d ≤ 64) : fEq [d, d] = some (.bl true) := by
  show (if eqOk d d = true then some (D.bl (eqD d d)) else none) = _
  have : eqOk d d = true := by simp [eqOk, h, hd]
  rw [if_pos this, show eqD d d = true from eqv_refl d h]
theorem plain_ints : ∀ {ns : List Int}, plainL (ns.map D.int) = true
  | [] => rfl
  | _ :: r => (Bool.and_eq_true _ _).mpr ⟨rfl, plain_ints (ns := r)⟩
theorem dep_ints : ∀ {ns : List Int}, depL (ns.map D.int) = 0
  | [] => rfl
  | _ :: r => by show max 0 (depL (r.map D.int)) = 0; rw [dep_ints]; rfl
theorem nofz_ints : ∀ {ns : List Int}, nofzL (ns.map D.int) = true
  | [] => rfl
  | _ :: r => (Bool.and_eq_true _ _).mpr ⟨rfl, nofz_ints (ns := r)⟩
theorem frz_ints' {ns : List Int} : frzL (ns.map D.int) = ns.map D.int := frzL_of frz_ints
theorem blsD_map {bs : List Bool} : blsD (bs.map D.bl) = some bs := by
  induction bs with
  | nil => rfl
  | cons b r ih => show (blsD (r.map D.bl)).map (b :: ·) = _; rw [ih]; rfl
theorem intsD_map {bs : List Int} : intsD (bs.map D.int) = some bs := by
  induction bs with
  | nil => rfl
  | cons b r ih => show (intsD (r.map D.int)).map (b :: ·) = _; rw [ih]; rfl
@[simp] theorem f_all {o : Bool} {bs : List Bool} : fAll [.lst o (bs.map D.bl)] = some (.bl (bs.all id)) := by
  show (match (some (bs.map D.bl)).bind blsD with | some bs => some (D.bl (bs.all id)) | none => none) = _
  rw [Option.bind_some, blsD_map]
@[simp] theorem f_any {o : Bool} {bs : List Bool} : fAny [.lst o (bs.map D.bl)] = some (.bl (bs.any id)) := by
  show (match (some (bs.map D.bl)).bind blsD with | some bs => some (D.bl (bs.any id)) | none => none) = _
  rw [Option.bind_some, blsD_map]
@[simp] theorem f_sum {o : Bool} {bs : List Int} : fSum [.lst o (bs.map D.int)] = some (.int bs.sum) := by
  show (match (some (bs.map D.int)).bind intsD with | some bs => some (D.int bs.sum) | none => none) = _
  rw [Option.bind_some, intsD_map]
theorem irange_len {lo : Int} {n : Nat} : (irange lo n).length = n := by unfold irange; simp
theorem irange_get {lo : Int} {n i : Nat} {y : D} (h : (irange lo n)[i]? = some y) : i < n ∧ y = .int (lo + i) := by
  unfold irange at h
  rw [List.getElem?_map] at h
  by_cases hi : i < n
  · rw [List.getElem?_range hi] at h
    cases h
    exact ⟨hi, rfl⟩
  · rw [List.getElem?_eq_none (by simpa using hi)] at h
    cases h
theorem irange_mem {lo : Int} {n : Nat} {y : D} (h : y ∈ irange lo n) : ∃ i : Nat, i < n ∧ y = .int (lo + i) := by
  obtain ⟨i, hi⟩ := List.getElem?_of_mem h
  exact ⟨i, irange_get hi⟩
end SV
namespace SV
open PySem
mutual
def gd : D → Bool
  | .non => true
  | .bl _ => true
  | .int _ => true
  | .str x => PyData.strOk x
  | .tup xs => decide (xs.length ≤ 100000) && gdL xs
  | .lst o xs => !o && (decide (xs.length ≤ 100000) && gdL xs)
  | .ro xs => decide (xs.length ≤ 100000) && gdL xs
  | .fn _ => false
  | .ty _ => false
  | .dct _ _ _ => false
  | .dz _ _ _ => false
  | .ins _ _ _ _ => false
  | .xc _ _ => false
def gdL : List D → Bool
  | [] => true
  | d :: r => gd d && gdL r
end
theorem gd_both : ∀ d, gd d = true → frzd d = true ∧ plainD d = true := by
  intro d
  induction d using D.rec (motive_2 := fun ds => gdL ds = true → frzdL ds = true ∧ plainL ds = true) with
  | non | bl | int => intro _; exact ⟨rfl, rfl⟩
  | str x => intro h; exact ⟨rfl, h⟩
  | fn | ty | dct | dz | ins | xc => intro h; simp [gd] at h
  | tup xs ih => intro h; simp only [gd, Bool.and_eq_true] at h; exact ih h.2
  | lst o xs ih => intro h; simp only [gd, Bool.and_eq_true] at h; simp only [frzd, plainD, Bool.and_eq_true]; exact ⟨⟨h.1, (ih h.2.2).1⟩, (ih h.2.2).2⟩
  | ro xs ih => intro h; simp only [gd, Bool.and_eq_true] at h; exact ih h.2
  | nil => exact ⟨rfl, rfl⟩
  | cons d r h1 h2 =>
    rename_i h
    simp only [gdL, Bool.and_eq_true] at h
    simp only [frzdL, plainL, Bool.and_eq_true]
    exact ⟨⟨(h1 h.1).1, (h2 h.2).1⟩, (h1 h.1).2, (h2 h.2).2⟩
theorem gd_mem : ∀ {xs : List D} {x : D}, gdL xs = true → x ∈ xs → gd x = true
  | d :: r, x, h, hx => by
    simp only [gdL, Bool.and_eq_true] at h
    rcases List.mem_cons.mp hx with rfl | hx
    · exact h.1
    · exact gd_mem h.2 hx
theorem dep_mem : ∀ {xs : List D} {x : D}, x ∈ xs → dep x ≤ depL xs
  | d :: r, x, hx => by
    have e : depL (d :: r) = max (dep d) (depL r) := by simp only [depL]
    rcases List.mem_cons.mp hx with rfl | hx
    · omega
    · have := dep_mem hx; omega
theorem zip_self_mem : ∀ {xs : List D} {y : D}, y ∈ zipL xs xs → ∃ x, x ∈ xs ∧ y = .tup [x, x]
  | d :: r, y, h => by
    have e : zipL (d :: r) (d :: r) = .tup [d, d] :: zipL r r := rfl
    rw [e] at h
    rcases List.mem_cons.mp h with rfl | h
    · exact ⟨d, List.mem_cons_self, rfl⟩
    · obtain ⟨x, h1, h2⟩ := zip_self_mem h
      exact ⟨x, List.mem_cons_of_mem _ h1, h2⟩
theorem zip_self_len {xs : List D} : (zipL xs xs).length = xs.length := by rw [zipL_len]; omega
theorem f_allT {o : Bool} {α : Type} {ys : List α} : fAll [.lst o (ys.map fun _ => D.bl true)] = some (.bl true) := by
  have e : (ys.map fun _ => D.bl true) = (ys.map fun _ => true).map D.bl := by rw [List.map_map]; rfl
  rw [e, f_all]
  simp
@[simp] theorem zip_l {o o' : Bool} {xs ys : List D} : zipD (.lst o xs) (.lst o' ys) = some (zipL xs ys) := (rfl)
@[simp] theorem zip_r {xs ys : List D} : zipD (.ro xs) (.ro ys) = some (zipL xs ys) := (rfl)
@[simp] theorem zip_t {xs ys : List D} : zipD (.tup xs) (.tup ys) = some (zipL xs ys) := (rfl)
@[simp] theorem ty_non : tyOf .non = some "NoneType" := (rfl)
@[simp] theorem ty_bl {b : Bool} : tyOf (.bl b) = some "bool" := (rfl)
@[simp] theorem ty_int {b : Int} : tyOf (.int b) = some "int" := (rfl)
@[simp] theorem ty_str {b : Str} : tyOf (.str b) = some "str" := (rfl)
@[simp] theorem ty_tup {xs : List D} : tyOf (.tup xs) = some "tuple" := (rfl)
@[simp] theorem ty_lst {o : Bool} {xs : List D} : tyOf (.lst o xs) = some "list" := (rfl)
@[simp] theorem ty_ro {xs : List D} : tyOf (.ro xs) = some "list" := (rfl)
@[simp] theorem is_nn : fIs [.non, .non] = some (.bl true) := (rfl)
@[simp] theorem is_bn {b : Bool} : fIs [.bl b, .non] = some (.bl false) := (rfl)
@[simp] theorem is_in {b : Int} : fIs [.int b, .non] = some (.bl false) := (rfl)
@[simp] theorem is_sn {b : Str} : fIs [.str b, .non] = some (.bl false) := (rfl)
@[simp] theorem is_tn {b : List D} : fIs [.tup b, .non] = some (.bl false) := (rfl)
@[simp] theorem is_ln {o : Bool} {b : List D} : fIs [.lst o b, .non] = some (.bl false) := (rfl)
theorem eq_nn : fEq [.non, .non] = some (.bl true) := eq_same rfl (by decide)
theorem eq_ss {x : Str} (h : PyData.strOk x = true) : fEq [.str x, .str x] = some (.bl true) := eq_same h (by show 0 ≤ 64; omega)
end SV

namespace SV
open PySem
end SV

namespace SV
open PySem
abbrev Ex := Str → D → S → Prop
def noE : Ex := fun _ _ _ => False
inductive Wx {α : Type} (E : Ex) : Rs α → (α → S → Prop) → Prop
  | ok {a s Q} : Q a s → Wx E (.ok a s) Q
  | exc {x w s Q} : E x w s → Wx E (.exc x w s) Q
section
variable {α β : Type} {E : Ex} {Q : α → S → Prop} {st s : S}
theorem Wx_ok {a : α} : Wx E (.ok a s) Q = Q a s := propext ⟨(fun h => by cases h; assumption), fun h => .ok h⟩
theorem Wx_exc {x : Str} {w : D} : Wx E (.exc x w s) Q = E x w s := propext ⟨(fun h => by cases h; assumption), fun h => .exc h⟩
theorem Wx_stuck : Wx E .stuck Q = False := propext ⟨(fun h => by cases h), False.elim⟩
theorem Wx_bind {r : Rs β} {f : β → S → Rs α} : Wx E (r.bind f) Q = Wx E r fun a s => Wx E (f a s) Q := by
  cases r with
  | ok a s => rw [bind_ok, Wx_ok]
  | exc x w s => rw [bind_exc, Wx_exc, Wx_exc]
  | stuck => rw [bind_stuck, Wx_stuck, Wx_stuck]
theorem Wx_map {r : Rs β} {f : β → α} : Wx E (r.map f) Q = Wx E r fun a s => Q (f a) s := by
  cases r with
  | ok a s => rw [r_map, Wx_ok, Wx_ok]
  | exc x w s => show Wx E (.exc x w s) Q = _; rw [Wx_exc, Wx_exc]
  | stuck => show Wx E .stuck Q = _; rw [Wx_stuck, Wx_stuck]
theorem Wx_ite {c : Prop} [Decidable c] {r r' : Rs α} : Wx E (if c then r else r') Q = ((c → Wx E r Q) ∧ (¬ c → Wx E r' Q)) := by
  by_cases h : c <;> simp [h]
theorem Wx_mono {r : Rs α} {Q' : α → S → Prop} (h : Wx E r Q) (k : ∀ a s, Q a s → Q' a s) : Wx E r Q' := by
  cases h with
  | ok h => exact .ok (k _ _ h)
  | exc h => exact .exc h
theorem Wx_ex {r : Rs α} (h : Wx noE r Q) : ∃ a s, r = .ok a s ∧ Q a s := by
  cases h with
  | ok h => exact ⟨_, _, rfl, h⟩
  | exc h => exact h.elim
end
inductive Cw (E : Str → D → List D → Prop) : Cr → (D → List D → Prop) → Prop
  | ok {d ps Q} : Q d ps → Cw E (.ok d ps) Q
  | exc {x w ps Q} : E x w ps → Cw E (.exc x w ps) Q
abbrev noC : Str → D → List D → Prop := fun _ _ _ => False
theorem Cw_ex {c : Cr} {Q : D → List D → Prop} (h : Cw noC c Q) : ∃ d ps, c = .ok d ps ∧ Q d ps := by
  cases h with
  | ok h => exact ⟨_, _, rfl, h⟩
  | exc h => exact h.elim
theorem Cw_eq {c : Cr} {d : D} {ps : List D} (h : Cw noC c fun e qs => e = d ∧ qs = ps) : c = .ok d ps := by
  cases h with
  | ok h => obtain ⟨rfl, rfl⟩ := h; rfl
  | exc h => exact h.elim
@[irreducible] def fin (modes : List Bool) (Q : D → List D → Prop) : Fl → S → Prop := fun f st => match backs modes st, f with
  | some ps, .rt d => Q d ps
  | some ps, .nx => Q .non ps
  | _, _ => False
theorem run_w {modes : List Bool} {n : Nat} {m : M Fl} {ds : List D} {Q : D → List D → Prop} {st : S} (hs : SV.start n ds = st) (h : Wx noE (m st) (fin modes Q)) : Cw noC (runDef modes n m ds) Q := by
  subst hs
  obtain ⟨f, st, e, h⟩ := Wx_ex h
  unfold runDef
  rw [e]
  unfold fin at h
  simp only
  cases q : backs modes st with
  | none => rw [q] at h; cases f <;> exact h.elim
  | some ps =>
    rw [q] at h
    cases f with
    | rt d => exact .ok h
    | nx => exact .ok h
    | bk => exact h.elim
    | ct => exact h.elim
@[irreducible] def Wg (o : Option S) (P : S → Prop) : Prop := match o with
  | some s => P s
  | none => False
theorem Wg_some {s : S} {P : S → Prop} : Wg (some s) P = P s := by unfold Wg; rfl
theorem Wg_none {P : S → Prop} : Wg none P = False := by unfold Wg; rfl
theorem Wg_gN {v : Nat} {y : D} {s : S} {P : S → Prop} : Wg (gN v y s) P = P (s.set v (some y)) := by rw [r_gN, Wg_some]
section
variable {E : Ex} {st : S}
@[irreducible] def flow (Q : Fl → S → Prop) (I : S → Prop) : Fl → S → Prop := fun f s => match f with
  | .nx => I s
  | .ct => I s
  | .bk => Q .nx s
  | .rt d => Q (.rt d) s
theorem flow_nx {Q : Fl → S → Prop} {I : S → Prop} {s : S} : flow Q I .nx s = I s := by unfold flow; rfl
theorem flow_ct {Q : Fl → S → Prop} {I : S → Prop} {s : S} : flow Q I .ct s = I s := by unfold flow; rfl
theorem flow_bk {Q : Fl → S → Prop} {I : S → Prop} {s : S} : flow Q I .bk s = Q .nx s := by unfold flow; rfl
theorem flow_rt {Q : Fl → S → Prop} {I : S → Prop} {s : S} {d : D} : flow Q I (.rt d) s = Q (.rt d) s := by unfold flow; rfl
theorem for_aux {g : D → S → Option S} {b : M Fl} {Q : Fl → S → Prop} {I : Nat → S → Prop} : ∀ {ys : List D} {k : Nat} {st : S}, (∀ i y s, ys[i]? = some y → I (k + i) s → Wg (g y s) fun s1 => Wx E (b s1) (flow Q (I (k + i + 1)))) → I k st → (∀ s, I (k + ys.length) s → Q .nx s) → Wx E (forL g b ys st) Q
  | [], k, st, _, h0, he => .ok (he st h0)
  | y :: ys, k, st, hs, h0, he => by
    have h := hs 0 y st rfl h0
    rw [forL_cons]
    cases q : g y st with
    | none => rw [q, Wg_none] at h; exact h.elim
    | some s1 =>
      rw [q, Wg_some] at h
      simp only
      rw [Wx_bind]
      refine Wx_mono h fun f s2 hf => ?_
      have go : I (k + 0 + 1) s2 → Wx E (forL g b ys s2) Q := fun h1 => for_aux (k := k + 1) (fun i z s hz hi => by
        have := hs (i + 1) z s (by simpa using hz) (by rw [show k + (i + 1) = k + 1 + i by omega]; exact hi)
        rw [show k + (i + 1) + 1 = k + 1 + i + 1 by omega] at this
        exact this) h1 fun s h2 => he s (by rw [List.length_cons, show k + (ys.length + 1) = k + 1 + ys.length by omega]; exact h2)
      cases f with
      | nx => rw [flow_nx] at hf; exact go hf
      | ct => rw [flow_ct] at hf; exact go hf
      | bk => rw [flow_bk] at hf; exact .ok hf
      | rt d => rw [flow_rt] at hf; exact .ok hf
theorem Wx_for {g : D → S → Option S} {b : M Fl} {Q : Fl → S → Prop} {ys : List D} (I : Nat → S → Prop) (h0 : I 0 st) (hs : ∀ i y s, ys[i]? = some y → I i s → Wg (g y s) fun s1 => Wx E (b s1) (flow Q (I (i + 1)))) (he : ∀ s, I ys.length s → Q .nx s) : Wx E (forL g b ys st) Q :=
  for_aux (k := 0) (fun i y s hy hi => by rw [Nat.zero_add] at hi ⊢; exact hs i y s hy hi) h0 fun s h => he s (by rw [Nat.zero_add] at h; exact h)
theorem Wx_rng {v : Nat} {b : M Fl} {Q : Fl → S → Prop} {lo : Int} {n : Nat} (I : Nat → S → Prop) (h0 : I 0 st) (hs : ∀ i s, i < n → I i s → Wx E (b (s.set v (some (.int (lo + (i : Int)))))) (flow Q (I (i + 1)))) (he : ∀ s, I n s → Q .nx s) : Wx E (forL (gN v) b (irange lo n) st) Q :=
  Wx_for I h0 (fun i y s hy hi => by
    obtain ⟨h, rfl⟩ := irange_get hy
    rw [Wg_gN]; exact hs i s h hi) fun s h => he s (by rw [irange_len] at h; exact h)
theorem Wx_ints {v : Nat} {b : M Fl} {Q : Fl → S → Prop} {ns : List Int} (I : Nat → S → Prop) (h0 : I 0 st) (hs : ∀ i n s, ns[i]? = some n → I i s → Wx E (b (s.set v (some (.int n)))) (flow Q (I (i + 1)))) (he : ∀ s, I ns.length s → Q .nx s) : Wx E (forL (gN v) b (ns.map D.int) st) Q :=
  Wx_for I h0 (fun i y s hy hi => by
    rw [List.getElem?_map] at hy
    cases q : ns[i]? with
    | none => rw [q] at hy; cases hy
    | some n => rw [q] at hy; cases hy; rw [Wg_gN]; exact hs i n s q hi) fun s h => he s (by rw [List.length_map] at h; exact h)
theorem Wx_while {t : M Bool} {b : M Fl} {Q : Fl → S → Prop} (I : S → Prop) (μ : S → Nat) (h0 : I st) (hs : ∀ s, I s → Wx E (t s) fun c s1 => (c = true → Wx E (b s1) (flow Q fun s2 => I s2 ∧ μ s2 < μ s)) ∧ (c = false → Q .nx s1)) : ∀ {n : Nat}, μ st < n → Wx E (sWhile t b n st) Q := by
  intro n
  induction n generalizing st with
  | zero => intro h; omega
  | succ n ih =>
    intro h
    rw [sWhile_succ, Wx_bind]
    refine Wx_mono (hs st h0) fun c s1 h1 => ?_
    cases c with
    | false => exact .ok (h1.2 rfl)
    | true =>
      have h1 := h1.1 rfl
      simp only [if_true]
      rw [Wx_bind]
      refine Wx_mono h1 fun f s2 h2 => ?_
      cases f with
      | nx => rw [flow_nx] at h2; exact ih h2.1 (by have := h2.2; omega)
      | ct => rw [flow_ct] at h2; exact ih h2.1 (by have := h2.2; omega)
      | bk => rw [flow_bk] at h2; exact .ok h2
      | rt d => rw [flow_rt] at h2; exact .ok h2
theorem lc_aux {vs : List Nat} {g : D → S → Option S} {t : M Bool} {m : M D} {I : Nat → List D → S → Prop} {Q : List D → S → Prop} : ∀ {ys : List D} {k : Nat} {acc : List D} {st : S}, (∀ i y acc s, ys[i]? = some y → I (k + i) acc s → Wg (g y s) fun s1 => Wx noE (t s1) fun c s2 => if c = true then Wx noE (m s2) fun d s3 => I (k + i + 1) (acc ++ [d]) (wipeS s3 vs) else I (k + i + 1) acc (wipeS s2 vs)) → I k acc st →
    (∀ ds s, I (k + ys.length) ds s → Q ds s) → Wx E (lcL vs g t m ys st) fun ds s => Q (acc ++ ds) s
  | [], k, acc, st, _, h0, he => by
    rw [lcL_nil]
    rw [Wx_ok, List.append_nil]
    exact he acc st h0
  | y :: ys, k, acc, st, hs, h0, he => by
    have h := hs 0 y acc st rfl h0
    have nxt : ∀ i z acc s, ys[i]? = some z → I (k + 1 + i) acc s → Wg (g z s) fun s1 => Wx noE (t s1) fun c s2 => if c = true then Wx noE (m s2) fun d s3 => I (k + 1 + i + 1) (acc ++ [d]) (wipeS s3 vs) else I (k + 1 + i + 1) acc (wipeS s2 vs) := fun i z acc s hz hi => by
        have := hs (i + 1) z acc s (by simpa using hz) (by rw [show k + (i + 1) = k + 1 + i by omega]; exact hi)
        rw [show k + (i + 1) + 1 = k + 1 + i + 1 by omega] at this
        exact this
    have fin : ∀ ds s, I (k + 1 + ys.length) ds s → Q ds s := fun ds s h2 => he ds s (by rw [List.length_cons, show k + (ys.length + 1) = k + 1 + ys.length by omega]; exact h2)
    rw [lcL_cons]
    cases q : g y st with
    | none => rw [q, Wg_none] at h; exact h.elim
    | some s1 =>
      rw [q, Wg_some] at h
      obtain ⟨c, s2, e2, h2⟩ := Wx_ex h
      simp only [e2]
      cases c with
      | false => exact lc_aux nxt h2 fin
      | true =>
        simp only [if_true] at h2
        obtain ⟨d, s3, e3, h3⟩ := Wx_ex h2
        simp only [e3]
        rw [Wx_map]
        have := lc_aux nxt h3 fin
        simp only [List.append_assoc, List.singleton_append] at this
        exact this
theorem Wx_lc {vs : List Nat} {g : D → S → Option S} {t : M Bool} {m : M D} {ys : List D} {Q : List D → S → Prop} (I : Nat → List D → S → Prop) (h0 : I 0 [] st) (hs : ∀ i y acc s, ys[i]? = some y → I i acc s → Wg (g y s) fun s1 => Wx noE (t s1) fun c s2 => if c = true then Wx noE (m s2) fun d s3 => I (i + 1) (acc ++ [d]) (wipeS s3 vs) else I (i + 1) acc (wipeS s2 vs)) (he : ∀ ds s, I ys.length ds s → Q ds s) : Wx E (lcL vs g t m ys st) Q := by
  have := lc_aux (E := E) (k := 0) (acc := []) (Q := Q) (fun i y acc s hy hi => by rw [Nat.zero_add] at hi ⊢; exact hs i y acc s hy hi) h0 fun ds s h => he ds s (by rw [Nat.zero_add] at h; exact h)
  simp only [List.nil_append] at this
  exact this
theorem Wx_map1 {vs : List Nat} {g : D → S → Option S} {m : M D} {ys : List D} {Q : List D → S → Prop} (f : D → D) (hs : ∀ y, y ∈ ys → Wg (g y st) fun s1 => Wx noE (m s1) fun d s3 => d = f y ∧ wipeS s3 vs = st) (he : Q (ys.map f) st) : Wx E (lcL vs g tYesM m ys st) Q := by
  rw [lc_map (f := f) (st := st) (ys := ys) fun y hy => ?_]
  · exact .ok he
  · have h := hs y hy
    cases q : g y st with
    | none => rw [q, Wg_none] at h; exact h.elim
    | some s1 =>
      rw [q, Wg_some] at h
      obtain ⟨d, s3, e, rfl, h3⟩ := Wx_ex h
      exact ⟨s1, s1, s3, rfl, rfl, e, h3⟩
theorem Wx_filter {vs : List Nat} {g : D → S → Option S} {t : M Bool} {m : M D} {ys : List D} {Q : List D → S → Prop} (f : D → D) (p : D → Bool) (hs : ∀ y, y ∈ ys → Wg (g y st) fun s1 => Wx noE (t s1) fun c s2 => c = p y ∧ (p y = true → Wx noE (m s2) fun d s3 => d = f y ∧ wipeS s3 vs = st) ∧ (p y = false → wipeS s2 vs = st)) (he : Q ((ys.filter p).map f) st) : Wx E (lcL vs g t m ys st) Q := by
  rw [lc_filter (f := f) (p := p) (st := st) (ys := ys) fun y hy => ?_]
  · exact .ok he
  · have h := hs y hy
    cases q : g y st with
    | none => rw [q, Wg_none] at h; exact h.elim
    | some s1 =>
      rw [q, Wg_some] at h
      obtain ⟨c, s2, e, rfl, h2, h3⟩ := Wx_ex h
      refine ⟨s1, s2, rfl, e, fun hp => ?_, h3⟩
      obtain ⟨d, s3, e3, rfl, h4⟩ := Wx_ex (h2 hp)
      exact ⟨s3, e3, h4⟩
end

def kW {α β : Type} (E : Ex) (f : α → S → Rs β) (Q : β → S → Prop) (a : α) (s : S) : Prop := Wx E (f a s) Q
theorem kW_at {α β : Type} {E : Ex} {f : α → S → Rs β} {Q : β → S → Prop} {a : α} {s : S} : kW E f Q a s = Wx E (f a s) Q := (rfl)
theorem q_bind {α β : Type} {E : Ex} {Q : α → S → Prop} {r : Rs β} {f : β → S → Rs α} : Wx E (r.bind f) Q = Wx E r (kW E f Q) := Wx_bind
section
variable {st s : S} {i : Nat} {d e : D} {o : Opd} {os : List Opd} {b : Bool}
def argR (m : Bool) (x : Option D) (y : Option (List D)) : Option (List D) := match x, y with | some d, some ds => some ((if m = true then d else frz d) :: ds) | _, _ => none
def consR (x : Option D) (y : Option (List D)) : Option (List D) := match x, y with | some d, some ds => some (d :: ds) | _, _ => none
def keepR (x : Option D) (y : Option (List D)) : Option (List D) := match x, y with | some d, some ds => if frzd d = true then some (d :: ds) else none | _, _ => none
def topR (o : Opd) (x : Option D) (y : Option (List D)) : Option (List D) := match x, y with | some d, some ds => if okT o d = true then some (frz d :: ds) else none | _, _ => none
def brwR (i : Nat) (x : Option D) (r : List Nat) : List Nat := match x with | some d => if frzd d = true then r else i :: r | none => i :: r
def oR (o : Option D) (s : S) : Rs D := match o with | some r => .ok r s | none => .stuck
theorem q_oR  : oR (some d) s = .ok d s := (rfl)
theorem q_sNil  : sNil st = .ok .nx st := (rfl)
def kSeq (n : M Fl) (f : Fl) (s : S) : Rs Fl := match f with | .nx => n s | f => .ok f s
theorem q_sSeq {m n : M Fl} : sSeq m n st = (m st).bind (kSeq n) := (rfl)
theorem q_kSeq1 {n : M Fl} : kSeq n .nx s = n s := (rfl)
theorem q_kSeq2 {n : M Fl} : kSeq n (.rt d) s = .ok (.rt d) s := (rfl)
theorem q_kSeq3 {n : M Fl} : kSeq n .bk s = .ok .bk s := (rfl)
theorem q_kSeq4 {n : M Fl} : kSeq n .ct s = .ok .ct s := (rfl)
def kSet (i : Nat) (d : D) (s : S) : Rs Fl := .ok .nx (s.set i (some d))
theorem q_sSet {m : M D} : sSet i m st = (m st).bind (kSet i) := (rfl)
theorem q_kSet  : kSet i d s = .ok .nx (s.set i (some d)) := (rfl)
def kRet (d : D) (s : S) : Rs Fl := .ok (.rt d) s
theorem q_sRet {m : M D} : sRet m st = (m st).bind kRet := (rfl)
theorem q_kRet  : kRet d s = .ok (.rt d) s := (rfl)
def kRv (i : Nat) (o : Option (Option D)) (st : S) : Rs Fl := match o with | some (some d) => .ok (.rt d) (st.set i none) | _ => .stuck
theorem q_sRetV  : sRetV i st = kRv i (st[i]?) st := (rfl)
theorem q_kRv  : kRv i (some (some d)) s = .ok (.rt d) (s.set i none) := (rfl)
theorem q_sRetN  : sRetN st = .ok (.rt .non) st := (rfl)
def kEx (_ : D) (s : S) : Rs Fl := .ok .nx s
theorem q_sEx {m : M D} : sEx m st = (m st).bind kEx := (rfl)
theorem q_kEx  : kEx d s = .ok .nx s := (rfl)
theorem q_sBrk  : sBrk st = .ok .bk st := (rfl)
theorem q_sCnt  : sCnt st = .ok .ct st := (rfl)
def kIf {α : Type} (m n : M α) (b : Bool) (s : S) : Rs α := if b = true then m s else n s
theorem q_sIf {t : M Bool} {m n : M Fl} : sIf t m n st = (t st).bind (kIf m n) := (rfl)
theorem q_eIf {t : M Bool} {m n : M D} : eIf t m n st = (t st).bind (kIf m n) := (rfl)
theorem q_kIf {α : Type} {m n : M α} : kIf m n b s = if b = true then m s else n s := (rfl)
def kAug (i : Nat) (f : List D → Option D) (k : Int) (d : D) (s : S) : Rs Fl := match f [.int k, d] with | some r => .ok .nx (s.set i (some r)) | none => .stuck
def augR (i : Nat) (o : Option D) (s : S) : Rs Fl := match o with | some r => .ok .nx (s.set i (some r)) | none => .stuck
def kAug0 (i : Nat) (f : List D → Option D) (m : M D) (o : Option (Option D)) (st : S) : Rs Fl := match o with | some (some (.int k)) => (m st).bind (kAug i f k) | _ => .stuck
theorem q_sAug {f : List D → Option D} {m : M D} : sAug i f m st = kAug0 i f m (st[i]?) st := (rfl)
theorem q_kAug0 {f : List D → Option D} {m : M D} {k : Int} : kAug0 i f m (some (some (.int k))) st = (m st).bind (kAug i f k) := (rfl)
theorem q_kAug {f : List D → Option D} {k : Int} : kAug i f k d s = augR i (f [.int k, d]) s := (rfl)
theorem q_augR  : augR i (some d) s = .ok .nx (s.set i (some d)) := (rfl)
def setR (o : Option S) : Rs Fl := match o with | some s => .ok .nx s | none => .stuck
theorem q_setR  : setR (some s) = .ok .nx s := (rfl)
def kSub3 (i : Nat) (d : D) (o : Option D) (s : S) : Rs Fl := match o with | some k => setR (setIx s i k d) | none => .stuck
def kSub2 (i : Nat) (d : D) (o : Opd) (s : S) : Rs Fl := kSub3 i d (getO s o) s
def kSub1 (i : Nat) (mk : M Opd) (d : D) (o : Option (Option D)) (s : S) : Rs Fl := match o with | some (some _) => (mk s).bind (kSub2 i d) | _ => .stuck
def kSub (i : Nat) (mk : M Opd) (d : D) (s : S) : Rs Fl := kSub1 i mk d (s[i]?) s
theorem q_sSub {mk : M Opd} {m : M D} : sSub i mk m st = (m st).bind (kSub i mk) := (rfl)
theorem q_kSub {mk : M Opd} : kSub i mk d s = kSub1 i mk d (s[i]?) s := (rfl)
theorem q_kSub1 {mk : M Opd} : kSub1 i mk d (some (some e)) s = (mk s).bind (kSub2 i d) := (rfl)
theorem q_kSub2  : kSub2 i d o s = kSub3 i d (getO s o) s := (rfl)
theorem q_kSub3  : kSub3 i d (some e) s = setR (setIx s i e d) := (rfl)
def ixS (s : S) (i : Nat) (xs : List D) (d : D) (o : Option Nat) : Option S := match o with | some j => some (s.set i (some (.lst true (xs.set j d)))) | none => none
def setIx1 (s : S) (i : Nat) (k : Int) (d : D) (o : Option (Option D)) : Option S := match o with | some (some (.lst true xs)) => ixS s i xs d (L2.ixN xs.length k) | _ => none
theorem q_ixS {xs : List D} {j : Nat} : ixS s i xs d (some j) = some (s.set i (some (.lst true (xs.set j d)))) := (rfl)
theorem q_setIx {k : Int} : setIx s i (.int k) d = setIx1 s i k d (s[i]?) := by
  rw [r_setIx]
  unfold setIx1
  cases s[i]? with
  | none => rfl
  | some o => cases o with
    | none => rfl
    | some x => cases x <;> first | rfl | (rename_i o xs; cases o <;> first | rfl | (simp only [ixS] <;> cases L2.ixN xs.length k <;> rfl))
theorem q_setIx1 {k : Int} {xs : List D} : setIx1 s i k d (some (some (.lst true xs))) = ixS s i xs d (L2.ixN xs.length k) := (rfl)
def parR (is : List Nat) (o : Option (List D)) (s : S) : Rs Fl := match o with | some ds => if ds.length = is.length then .ok .nx (setAll s is ds) else .stuck | none => .stuck
def kPar (is : List Nat) (os : List Opd) (s : S) : Rs Fl := parR is (keepL s os) s
def kUnp (is : List Nat) (d : D) (s : S) : Rs Fl := match d with | .tup ds => if ds.length = is.length then .ok .nx (setAll s is ds) else .stuck | _ => .stuck
theorem q_sPar {is : List Nat} {ms : M (List Opd)} : sPar is ms st = (ms st).bind (kPar is) := (rfl)
theorem q_kPar {is : List Nat} : kPar is os s = parR is (keepL s os) s := (rfl)
theorem q_parR {is : List Nat} {ds : List D} : parR is (some ds) s = if ds.length = is.length then .ok .nx (setAll s is ds) else .stuck := (rfl)
theorem q_sUnp {is : List Nat} {m : M D} : sUnp is m st = (m st).bind (kUnp is) := (rfl)
theorem q_kUnp {is : List Nat} {ds : List D} : kUnp is (.tup ds) s = if ds.length = is.length then .ok .nx (setAll s is ds) else .stuck := (rfl)
theorem q_sFor {g : D → S → Option S} {m : M (List D)} {b : M Fl} : sFor g m b st = (m st).bind (forL g b) := (rfl)
def kB (d : D) (s : S) : Rs Bool := match d with | .bl b => .ok b s | _ => .stuck
theorem q_tB {m : M D} : tB m st = (m st).bind kB := (rfl)
theorem q_kB  : kB (.bl b) s = .ok b s := (rfl)
def trR (o : Option Bool) (s : S) : Rs Bool := match o with | some b => .ok b s | none => .stuck
def kTr (o : Opd) (s : S) : Rs Bool := trR ((getO s o).bind truD) s
theorem q_tTr {m : M Opd} : tTr m st = (m st).bind kTr := (rfl)
theorem q_kTr  : kTr o s = trR ((getO s o).bind truD) s := (rfl)
theorem q_trR  : trR (some b) s = .ok b s := (rfl)
def kTn (b : Bool) (s : S) : Rs Bool := .ok (!b) s
theorem q_tNot {m : M Bool} : tNot m st = (m st).bind kTn := (rfl)
theorem q_kTn  : kTn b s = .ok (!b) s := (rfl)
def kTa (n : M Bool) (b : Bool) (s : S) : Rs Bool := if b = true then n s else .ok false s
def kTo (n : M Bool) (b : Bool) (s : S) : Rs Bool := if b = true then .ok true s else n s
theorem q_tAnd {m n : M Bool} : tAnd m n st = (m st).bind (kTa n) := (rfl)
theorem q_kTa {n : M Bool} : kTa n b s = if b = true then n s else .ok false s := (rfl)
theorem q_tOr {m n : M Bool} : tOr m n st = (m st).bind (kTo n) := (rfl)
theorem q_kTo {n : M Bool} : kTo n b s = if b = true then .ok true s else n s := (rfl)
theorem q_tYes  : tYesM st = .ok true st := (rfl)
theorem q_eC  : eC d st = .ok d st := (rfl)
def kN (o : Option (Option D)) (st : S) : Rs D := match o with | some (some d) => if frzd d = true then .ok d st else .stuck | _ => .stuck
theorem q_eN  : eN i st = kN (st[i]?) st := (rfl)
theorem q_kN  : kN (some (some d)) s = if frzd d = true then .ok d s else .stuck := (rfl)
def kMv (i : Nat) (o : Option (Option D)) (st : S) : Rs D := match o with | some (some d) => .ok d (st.set i none) | _ => .stuck
theorem q_eMv  : eMv i st = kMv i (st[i]?) st := (rfl)
theorem q_kMv  : kMv i (some (some d)) s = .ok d (s.set i none) := (rfl)
def kFz (i : Nat) (o : Option (Option D)) (st : S) : Rs D := match o with | some (some d) => .ok (frz d) (st.set i (some (frz d))) | _ => .stuck
theorem q_eFz  : eFz i st = kFz i (st[i]?) st := (rfl)
theorem q_kFz  : kFz i (some (some d)) s = .ok (frz d) (s.set i (some (frz d))) := (rfl)
def kOv (d : D) (s : S) : Rs Opd := .ok (.v d) s
theorem q_oV {m : M D} : oV m st = (m st).bind kOv := (rfl)
theorem q_kOv  : kOv d s = .ok (.v d) s := (rfl)
def kOs (i : Nat) (o : Option (Option D)) (st : S) : Rs Opd := match o with | some (some _) => .ok (.s i) st | _ => .stuck
theorem q_oS  : oS i st = kOs i (st[i]?) st := (rfl)
theorem q_kOs  : kOs i (some (some d)) s = .ok (.s i) s := (rfl)
theorem q_aNil  : aNil st = .ok [] st := (rfl)
def kC2 (o : Opd) (os : List Opd) (s : S) : Rs (List Opd) := .ok (o :: os) s
def kC1 (ms : M (List Opd)) (o : Opd) (s : S) : Rs (List Opd) := (ms s).bind (kC2 o)
theorem q_aCons {m : M Opd} {ms : M (List Opd)} : aCons m ms st = (m st).bind (kC1 ms) := (rfl)
theorem q_kC1 {ms : M (List Opd)} : kC1 ms o s = (ms s).bind (kC2 o) := (rfl)
theorem q_kC2  : kC2 o os s = .ok (o :: os) s := (rfl)
def kOp (f : List D → Option D) (os : List Opd) (s : S) : Rs D := oR ((getL s os).bind f) s
theorem q_opS {f : List D → Option D} {ms : M (List Opd)} : opS f ms st = (ms st).bind (kOp f) := by
  unfold opS
  congr 1
  funext os s
  unfold kOp oR
  cases getL s os with
  | none => rfl
  | some ds => simp only [Option.bind_some] <;> cases f ds <;> rfl
theorem q_kOp {f : List D → Option D} : kOp f os s = oR ((getL s os).bind f) s := (rfl)
theorem q_e2 {f : List D → Option D} {ma mb : M Opd} : e2 f ma mb st = opS f (aCons ma (aCons mb aNil)) st := (rfl)
def kOpA (f : List D → Option D) (os : List Opd) (s : S) : Rs D := oR ((tops s os).bind f) s
theorem q_opA {f : List D → Option D} {ms : M (List Opd)} : opA f ms st = (ms st).bind (kOpA f) := by
  unfold opA
  congr 1
  funext os s
  unfold kOpA oR
  cases tops s os with
  | none => rfl
  | some ds => simp only [Option.bind_some] <;> cases f ds <;> rfl
theorem q_kOpA {f : List D → Option D} : kOpA f os s = oR ((tops s os).bind f) s := (rfl)
theorem q_e2A {f : List D → Option D} {ma mb : M Opd} : e2A f ma mb st = opA f (aCons ma (aCons mb aNil)) st := (rfl)
def ixR (a : Opd) (o : Option D) (s : S) : Rs D := match o with | some r => if okO a r = true then .ok (frz r) s else .stuck | none => .stuck
def ixO (x y : Option D) : Option D := match x, y with | some x, some y => ixD x y | _, _ => none
def kIx (os : List Opd) (s : S) : Rs D := match os with | [a, b] => ixR a (ixO (getO s a) (getO s b)) s | _ => .stuck
theorem q_eIx {ma mb : M Opd} : eIx ma mb st = (aCons ma (aCons mb aNil) st).bind kIx := by
  unfold eIx
  congr 1
  funext os s
  match os with
  | [] => rfl
  | [_] => rfl
  | _ :: _ :: _ :: _ => rfl
  | [a, b] =>
    simp only [kIx, ixR, ixO]
    cases getO s a with
    | none => rfl
    | some x => cases getO s b with
      | none => rfl
      | some y => simp only <;> cases ixD x y <;> rfl
theorem q_kIx {a c : Opd} : kIx [a, c] s = ixR a (ixO (getO s a) (getO s c)) s := (rfl)
theorem q_ixO {x y : D} : ixO (some x) (some y) = ixD x y := (rfl)
theorem q_ixR {a : Opd} : ixR a (some d) s = if okO a d = true then .ok (frz d) s else .stuck := (rfl)
def tupR (o : Option (List D)) (s : S) : Rs D := match o with | some ds => if ds.length ≤ 100000 then .ok (.tup ds) s else .stuck | none => .stuck
def lstR (o : Option (List D)) (s : S) : Rs D := match o with | some ds => if ds.length ≤ 100000 then .ok (.lst true ds) s else .stuck | none => .stuck
def kTup (os : List Opd) (s : S) : Rs D := tupR (keepL s os) s
def kLst (os : List Opd) (s : S) : Rs D := lstR (keepL s os) s
theorem q_eTup {ms : M (List Opd)} : eTup ms st = (ms st).bind kTup := (rfl)
theorem q_kTup  : kTup os s = tupR (keepL s os) s := (rfl)
theorem q_tupR {ds : List D} : tupR (some ds) s = if ds.length ≤ 100000 then .ok (.tup ds) s else .stuck := (rfl)
theorem q_eLst {ms : M (List Opd)} : eLst ms st = (ms st).bind kLst := (rfl)
theorem q_kLst  : kLst os s = lstR (keepL s os) s := (rfl)
theorem q_lstR {ds : List D} : lstR (some ds) s = if ds.length ≤ 100000 then .ok (.lst true ds) s else .stuck := (rfl)
def kAnd (n : M D) (d : D) (s : S) : Rs D := match d with | .bl true => n s | .bl false => .ok (.bl false) s | _ => .stuck
def kOr (n : M D) (d : D) (s : S) : Rs D := match d with | .bl true => .ok (.bl true) s | .bl false => n s | _ => .stuck
theorem q_eAnd {m n : M D} : eAnd m n st = (m st).bind (kAnd n) := (rfl)
theorem q_kAnd {n : M D} : kAnd n (.bl b) s = if b = true then n s else .ok (.bl false) s := by cases b <;> rfl
theorem q_eOr {m n : M D} : eOr m n st = (m st).bind (kOr n) := (rfl)
theorem q_kOr {n : M D} : kOr n (.bl b) s = if b = true then .ok (.bl true) s else n s := by cases b <;> rfl
def kNot (d : D) (s : S) : Rs D := match d with | .bl b => .ok (.bl (!b)) s | _ => .stuck
def kNeg (d : D) (s : S) : Rs D := match d with | .int i => .ok (.int (-i)) s | _ => .stuck
theorem q_eNot {m : M D} : eNot m st = (m st).bind kNot := (rfl)
theorem q_kNot  : kNot (.bl b) s = .ok (.bl (!b)) s := (rfl)
theorem q_eNeg {m : M D} : eNeg m st = (m st).bind kNeg := (rfl)
theorem q_kNeg {k : Int} : kNeg (.int k) s = .ok (.int (-k)) s := (rfl)
def m0R (i : Nat) (o : Option (List D × D)) (s : S) : Rs D := match o with | some (ys, r) => .ok r (s.set i (some (.lst true ys))) | none => .stuck
def kM0 (i : Nat) (f : List D → Option (List D × D)) (o : Option (Option D)) (s : S) : Rs D := match o with | some (some (.lst true xs)) => m0R i (f xs) s | _ => .stuck
theorem q_eM0 {f : List D → Option (List D × D)} : eM0 i f st = kM0 i f (st[i]?) st := (rfl)
theorem q_kM0 {f : List D → Option (List D × D)} {xs : List D} : kM0 i f (some (some (.lst true xs))) s = m0R i (f xs) s := (rfl)
theorem q_m0R {ys : List D} : m0R i (some (ys, d)) s = .ok d (s.set i (some (.lst true ys))) := (rfl)
def m1R (i : Nat) (o : Option (List D)) (s : S) : Rs D := match o with | some ys => .ok .non (s.set i (some (.lst true ys))) | none => .stuck
def kM1b (i : Nat) (f : List D → D → Option (List D)) (d : D) (o : Option (Option D)) (s : S) : Rs D := match o with | some (some (.lst true xs)) => m1R i (f xs d) s | _ => .stuck
def kM1 (i : Nat) (f : List D → D → Option (List D)) (d : D) (s : S) : Rs D := kM1b i f d (s[i]?) s
def kM1a (i : Nat) (f : List D → D → Option (List D)) (m : M D) (o : Option (Option D)) (s : S) : Rs D := match o with | some (some (.lst true _)) => (m s).bind (kM1 i f) | _ => .stuck
theorem q_eM1 {f : List D → D → Option (List D)} {m : M D} : eM1 i f m st = kM1a i f m (st[i]?) st := (rfl)
theorem q_kM1a {f : List D → D → Option (List D)} {m : M D} {xs : List D} : kM1a i f m (some (some (.lst true xs))) s = (m s).bind (kM1 i f) := (rfl)
theorem q_kM1 {f : List D → D → Option (List D)} : kM1 i f d s = kM1b i f d (s[i]?) s := (rfl)
theorem q_kM1b {f : List D → D → Option (List D)} {xs : List D} : kM1b i f d (some (some (.lst true xs))) s = m1R i (f xs d) s := (rfl)
theorem q_m1R {ys : List D} : m1R i (some ys) s = .ok .non (s.set i (some (.lst true ys))) := (rfl)
def kLcE (ds : List D) (s : S) : Rs D := .ok (.lst true ds) s
def kLc (vs : List Nat) (g : D → S → Option S) (t : M Bool) (n : M D) (ys : List D) (s : S) : Rs D := if ys.length ≤ 100000 then (lcL vs g t n ys (wipeS s vs)).bind kLcE else .stuck
theorem q_eLc {vs : List Nat} {g : D → S → Option S} {m : M (List D)} {t : M Bool} {n : M D} : eLc vs g m t n st = (m st).bind (kLc vs g t n) := (rfl)
theorem q_kLc {vs : List Nat} {g : D → S → Option S} {t : M Bool} {n : M D} {ys : List D} : kLc vs g t n ys s = if ys.length ≤ 100000 then (lcL vs g t n ys (wipeS s vs)).bind kLcE else .stuck := (rfl)
theorem q_kLcE {ds : List D} : kLcE ds s = .ok (.lst true ds) s := (rfl)
def rngR (o : Option (List D)) (s : S) : Rs (List D) := match o with | some [.int j] => if j.natAbs < 4611686018427387904 then .ok (irange 0 j.toNat) s else .stuck | some [.int i, .int j] => if i.natAbs < 4611686018427387904 ∧ j.natAbs < 4611686018427387904 then .ok (irange i (j - i).toNat) s else .stuck | _ => .stuck
def kRng (os : List Opd) (s : S) : Rs (List D) := rngR (getL s os) s
theorem q_iRng {ms : M (List Opd)} : SV.iRng ms st = (ms st).bind kRng := (rfl)
theorem q_kRng  : kRng os s = rngR (getL s os) s := (rfl)
theorem q_rng1 {j : Int} : rngR (some [.int j]) s = if j.natAbs < 4611686018427387904 then .ok (irange 0 j.toNat) s else .stuck := (rfl)
theorem q_rng2 {k j : Int} : rngR (some [.int k, .int j]) s = if k.natAbs < 4611686018427387904 ∧ j.natAbs < 4611686018427387904 then .ok (irange k (j - k).toNat) s else .stuck := (rfl)
def rngR3 (o : Option (List D)) (s : S) : Rs (List D) := match o with | some [.int i, .int j, .int c] => if rgOk i j c = true then .ok (crange i c (rgN i j c)) s else .stuck | _ => .stuck
def kRng3 (os : List Opd) (s : S) : Rs (List D) := rngR3 (getL s os) s
theorem q_iRng3 {ms : M (List Opd)} : SV.iRng3 ms st = (ms st).bind kRng3 := (rfl)
theorem q_kRng3  : kRng3 os s = rngR3 (getL s os) s := (rfl)
theorem q_rng3 {k j c : Int} : rngR3 (some [.int k, .int j, .int c]) s = if rgOk k j c = true then .ok (crange k c (rgN k j c)) s else .stuck := (rfl)
def ysR (o : Option (List D)) (s : S) : Rs (List D) := match o with | some ys => .ok ys s | none => .stuck
theorem q_ysR {ys : List D} : ysR (some ys) s = .ok ys s := (rfl)
def seqR (o : Opd) (x : Option D) (s : S) : Rs (List D) := match x with | some d => if okO o d = true then ysR (seqD (frz d)) s else .stuck | none => .stuck
def kSeqI (o : Opd) (s : S) : Rs (List D) := seqR o (getO s o) s
theorem q_iSeq {m : M Opd} : iSeq m st = (m st).bind kSeqI := (rfl)
theorem q_kSeqI  : kSeqI o s = seqR o (getO s o) s := (rfl)
theorem q_seqR  : seqR o (some d) s = if okO o d = true then ysR (seqD (frz d)) s else .stuck := (rfl)
def zipR (oa ob : Opd) (x y : Option D) (s : S) : Rs (List D) := match x, y with | some d, some d1 => if okO oa d = true ∧ okO ob d1 = true then ysR (zipD (frz d) (frz d1)) s else .stuck | _, _ => .stuck
def kZip (os : List Opd) (s : S) : Rs (List D) := match os with | [oa, ob] => zipR oa ob (getO s oa) (getO s ob) s | _ => .stuck
theorem q_iZip {ma mb : M Opd} : SV.iZip ma mb st = (aCons ma (aCons mb aNil) st).bind kZip := (rfl)
theorem q_kZip {oa ob : Opd} : kZip [oa, ob] s = zipR oa ob (getO s oa) (getO s ob) s := (rfl)
theorem q_zipR {oa ob : Opd} : zipR oa ob (some d) (some e) s = if okO oa d = true ∧ okO ob e = true then ysR (zipD (frz d) (frz e)) s else .stuck := (rfl)
def enuO (x : Option (List D)) : Option (List D) := match x with | some ys => some (enumL 0 ys) | none => none
theorem q_enuO {ys : List D} : enuO (some ys) = some (enumL 0 ys) := (rfl)
def enuR (o : Opd) (x : Option D) (s : S) : Rs (List D) := match x with | some d => if okO o d = true then ysR (enuO (lstOf (frz d))) s else .stuck | none => .stuck
def kEnu (o : Opd) (s : S) : Rs (List D) := enuR o (getO s o) s
theorem q_iEnum {m : M Opd} : SV.iEnum m st = (m st).bind kEnu := by
  unfold SV.iEnum
  congr 1
  funext o s
  unfold kEnu enuR enuO ysR
  cases getO s o with
  | none => rfl
  | some d => simp only <;> cases lstOf (frz d) <;> rfl
theorem q_kEnu  : kEnu o s = enuR o (getO s o) s := (rfl)
theorem q_enuR  : enuR o (some d) s = if okO o d = true then ysR (enuO (lstOf (frz d))) s else .stuck := (rfl)
def callR (modes : List Bool) (Φ : List D → Cr) (os : List Opd) (x : Option (List D)) (s : S) : Rs D := match x with | some ds => if apartOk (refsOf 0 modes os) (brwOf s modes os) = true then callEnd modes os (brwOf s modes os) s (Φ ds) else .stuck | none => .stuck
def kCall (modes : List Bool) (Φ : List D → Cr) (os : List Opd) (s : S) : Rs D := callR modes Φ os (argsOf s modes os) s
theorem q_eCall {modes : List Bool} {Φ : List D → Cr} {ms : M (List Opd)} : eCall modes Φ ms st = (ms st).bind (kCall modes Φ) := (rfl)
theorem q_kCall {modes : List Bool} {Φ : List D → Cr} : kCall modes Φ os s = callR modes Φ os (argsOf s modes os) s := (rfl)
theorem q_callR {modes : List Bool} {Φ : List D → Cr} {ds : List D} : callR modes Φ os (some ds) s = if apartOk (refsOf 0 modes os) (brwOf s modes os) = true then callEnd modes os (brwOf s modes os) s (Φ ds) else .stuck := (rfl)
theorem q_argsOf1 {m : Bool} {ms : List Bool} : argsOf st (m :: ms) (o :: os) = argR m (getO st o) (argsOf st ms os) := (rfl)
theorem q_argR {m : Bool} {ds : List D} : argR m (some d) (some ds) = some ((if m = true then d else frz d) :: ds) := (rfl)
theorem q_getL1  : getL st (o :: os) = consR (getO st o) (getL st os) := (rfl)
theorem q_consR {ds : List D} : consR (some d) (some ds) = some (d :: ds) := (rfl)
theorem q_keepLs  : keepL st (.s i :: os) = keepR (st[i]?).join (keepL st os) := (rfl)
theorem q_keepLv  : keepL st (.v d :: os) = consR (some d) (keepL st os) := by rw [r_keepLv]; unfold consR; cases keepL st os <;> rfl
theorem q_keepR {ds : List D} : keepR (some d) (some ds) = if frzd d = true then some (d :: ds) else none := (rfl)
theorem q_tops1  : tops st (o :: os) = topR o (getO st o) (tops st os) := (rfl)
theorem q_topR {ds : List D} : topR o (some d) (some ds) = if okT o d = true then some (frz d :: ds) else none := (rfl)
theorem q_brw1 {ms : List Bool} : brwOf st (false :: ms) (.s i :: os) = brwR i (getO st (.s i)) (brwOf st ms os) := by rw [r_brw1]; unfold brwR; cases getO st (.s i) <;> rfl
theorem q_brwR {r : List Nat} : brwR i (some d) r = if frzd d = true then r else i :: r := (rfl)
theorem q_callEnd {modes : List Bool} {brw : List Nat} {ps : List D} : callEnd modes os brw st (.ok d ps) = if endOk brw d ps = true then .ok d (putB modes os ps st) else .stuck := (rfl)
theorem q_callEndX {modes : List Bool} {brw : List Nat} {ps : List D} {x : Str} : callEnd modes os brw st (.exc x d ps) = if endOk brw d ps = true then .exc x d (putB modes os ps st) else .stuck := (rfl)
theorem q_gTup {n : Nat} {g : List D → S → Option S} {r : List D} : gTup n g (.tup r) st = if r.length = n then g r st else none := (rfl)
def gCk (h : List D → S → Option S) (r : List D) (o : Option S) : Option S := match o with | some s => h r s | none => none
theorem q_gCons {g : D → S → Option S} {h : List D → S → Option S} {r : List D} : gCons g h (d :: r) st = gCk h r (g d st) := by rw [r_gCons]; cases g d st <;> rfl
theorem q_gCk {h : List D → S → Option S} {r : List D} : gCk h r (some s) = h r s := (rfl)
end

section
variable {α : Type} {c : Prop} [Decidable c]
theorem g_ok {r : Rs α} (h : c) : (if c then r else Rs.stuck) = r := if_pos h
theorem o_ok {x : α} (h : c) : (if c then some x else none) = some x := if_pos h
theorem frz_if {d : D} {x y : α} (h : frzd d = true) : (if frzd d = true then x else y) = x := if_pos h
end
def endR (Q : D → List D → Prop) (d : D) (o : Option (List D)) : Prop := match o with | some ps => Q d ps | none => False
theorem endR_at {Q : D → List D → Prop} {d : D} {ps : List D} : endR Q d (some ps) = Q d ps := (rfl)
theorem fin_rt' {modes : List Bool} {Q : D → List D → Prop} {d : D} {st : S} : fin modes Q (.rt d) st = endR Q d (backs modes st) := by unfold fin endR; cases backs modes st <;> rfl
theorem fin_nx' {modes : List Bool} {Q : D → List D → Prop} {st : S} : fin modes Q .nx st = endR Q .non (backs modes st) := by unfold fin endR; cases backs modes st <;> rfl
theorem apart0 {b : List Nat} : apartOk [] b = true := (rfl)
theorem apart1 {p : Nat × Nat} : apartOk [p] [] = true := by simp [apartOk]
theorem apart2 {i j b : Nat} : apartOk [(i, j)] [b] = !decide (i = b) := by
  by_cases h : i = b
  · subst h; simp [apartOk]
  · have : (b == i) = false := by simpa using fun e => h e.symm
    simp [apartOk, h]
theorem atI_m1 {α : Type} {xs : List α} {x : α} : L2.atI (xs ++ [x]) (-1) = some x := by
  unfold L2.atI L2.ixN
  simp
  rw [if_pos (by omega)]
  simp
  rw [show (-1 + ((xs.length : Int) + 1)).toNat = xs.length by omega]
  simp
theorem frzdL_map_int {ns : List Int} : frzdL (ns.map D.int) = true := frz_ints
theorem frzL_map_int {ns : List Int} : frzL (ns.map D.int) = ns.map D.int := frz_ints'
theorem frzdL_irange {lo : Int} {n : Nat} : frzdL (irange lo n) = true := by
  unfold irange
  induction n with
  | zero => rfl
  | succ n ih => rw [List.range_succ, List.map_append, frzdL_append, ih]; rfl
theorem repD_len {n : Nat} {xs : List D} : (repD n xs).length = n * xs.length := by
  unfold repD
  induction n with
  | zero => simp
  | succ n ih => rw [List.replicate_succ, List.flatten_cons, List.length_append, ih, Nat.succ_mul]; omega
theorem mul_ok1 {a b : Int} (h : a.natAbs < 2 ^ 64) : mulOk a b = true := by simp [mulOk, h]
theorem mul_ok2 {a b : Int} (h : b.natAbs < 2 ^ 64) : mulOk a b = true := by simp [mulOk, h]
end SV

namespace SV
open PySem
theorem Bx.nz {n : Nat} {d : D} (h : Bx n d) : nofz d = true := by obtain ⟨_, _, _, rfl, _⟩ := h.ex; rfl
def All (P : D → Prop) (xs : List D) : Prop := ∀ x ∈ xs, P x
theorem All.nil {P : D → Prop} : All P [] := fun _ h => nomatch h
theorem All.snoc {P : D → Prop} {xs : List D} {d : D} (h : All P xs) (hd : P d) : All P (xs ++ [d]) := fun x hx => by
  rcases List.mem_append.mp hx with hx | hx
  · exact h x hx
  · rw [List.mem_singleton] at hx; exact hx ▸ hd
theorem All.app {P : D → Prop} {xs ys : List D} (h : All P xs) (h' : All P ys) : All P (xs ++ ys) := fun x hx => (List.mem_append.mp hx).elim (h x) (h' x)
theorem All.cons {P : D → Prop} {xs : List D} {d : D} (hd : P d) (h : All P xs) : All P (d :: xs) := fun x hx => by
  rcases List.mem_cons.mp hx with rfl | hx
  · exact hd
  · exact h x hx
theorem All.get {P : D → Prop} {xs : List D} {i : Nat} {x : D} (h : All P xs) (e : xs[i]? = some x) : P x := h x (List.mem_of_getElem? e)
theorem All.frz {P : D → Prop} (hP : ∀ x, P x → frzd x = true) {xs : List D} (h : All P xs) : frzdL xs = true := by
  induction xs with
  | nil => rfl
  | cons a r ih => exact (Bool.and_eq_true _ _).mpr ⟨hP a (h a List.mem_cons_self), ih fun x hx => h x (List.mem_cons_of_mem _ hx)⟩
def Num (top : Nat) (x : D) : Prop := ∃ m : Nat, x = .int m ∧ m ≤ top
theorem Num.frz {top : Nat} (x : D) (h : Num top x) : frzd x = true := by obtain ⟨m, rfl, _⟩ := h; rfl
theorem toPy_ints {xs : List Int} : toPyL (xs.map D.int) = xs.map PyData.int := by
  induction xs with
  | nil => rfl
  | cons a r ih => show PyData.int a :: toPyL (r.map D.int) = _; rw [ih]; rfl
theorem eqv_ints : ∀ {xs ys : List Int}, PyData.eqvAll (xs.map PyData.int) (ys.map PyData.int) = decide (xs = ys)
  | [], [] => by simp [PyData.eqvAll]
  | [], _ :: _ => by simp [PyData.eqvAll]
  | _ :: _, [] => by simp [PyData.eqvAll]
  | a :: r, b :: q => by
    have ih := eqv_ints (xs := r) (ys := q)
    simp only [List.map_cons, PyData.eqvAll, ih]
    have e : PyData.eqv (.int a) (.int b) = decide (a = b) := by
      have := eq_int (a := a) (b := b)
      have h : fEq [.int a, .int b] = some (.bl (PyData.eqv (.int a) (.int b))) := rfl
      rw [h] at this
      simpa using this
    rw [e]
    by_cases h1 : a = b <;> by_cases h2 : r = q <;> simp [h1, h2]
theorem eqD_intsL {o o' : Bool} {xs ys : List Int} : eqD (.lst o (xs.map D.int)) (.lst o' (ys.map D.int)) = decide (xs = ys) := by
  show PyData.eqv (.list (toPyL _)) (.list (toPyL _)) = _
  rw [toPy_ints, toPy_ints]
  simp only [PyData.eqv]
  exact eqv_ints
theorem eqD_intsT {xs ys : List Int} : eqD (.tup (xs.map D.int)) (.tup (ys.map D.int)) = decide (xs = ys) := by
  show PyData.eqv (.tuple (toPyL _)) (.tuple (toPyL _)) = _
  rw [toPy_ints, toPy_ints]
  simp only [PyData.eqv]
  exact eqv_ints
theorem eq_intsL {o o' : Bool} {xs ys : List Int} : fEq [.lst o (xs.map D.int), .lst o' (ys.map D.int)] = some (.bl (decide (xs = ys))) := by
  have h1 : eqOk (.lst o (xs.map D.int)) (.lst o' (ys.map D.int)) = true := by simp [eqOk, plainD, plain_ints, dep, dep_ints]
  show (if eqOk _ _ = true then some (D.bl (eqD _ _)) else none) = _
  rw [if_pos h1, eqD_intsL]
theorem ne_intsL {o o' : Bool} {xs ys : List Int} : fNe [.lst o (xs.map D.int), .lst o' (ys.map D.int)] = some (.bl (!decide (xs = ys))) := by
  have h1 : eqOk (.lst o (xs.map D.int)) (.lst o' (ys.map D.int)) = true := by simp [eqOk, plainD, plain_ints, dep, dep_ints]
  show (if eqOk _ _ = true then some (D.bl (!eqD _ _)) else none) = _
  rw [if_pos h1, eqD_intsL]
theorem eq_intsT {xs ys : List Int} : fEq [.tup (xs.map D.int), .tup (ys.map D.int)] = some (.bl (decide (xs = ys))) := by
  have h1 : eqOk (.tup (xs.map D.int)) (.tup (ys.map D.int)) = true := by simp [eqOk, plainD, plain_ints, dep, dep_ints]
  show (if eqOk _ _ = true then some (D.bl (eqD _ _)) else none) = _
  rw [if_pos h1, eqD_intsT]
end SV

namespace SV
open PySem PySem.Spec PyProof.Rows L2
def kFr (d : D) (s : S) : Rs D := .ok (frz d) s
def eFr (m : M D) : M D := fun st => (m st).bind kFr
theorem q_kFr {d : D} {s : S} : kFr d s = .ok (frz d) s := (rfl)
@[simp] theorem r_eFr {m : M D} {st : S} : eFr m st = (m st).bind fun d s => .ok (frz d) s := (rfl)
theorem q_eFr {m : M D} {st : S} : eFr m st = (m st).bind kFr := (rfl)
section
variable {C : Ct} {e : Expr} {s1 : Stmt}
theorem se_fr {m : M D} (h : SE C e m) : SE C e (eFr m) := fun st σ H ω Q s p => h.then s p (fun _ _ _ p => p) (fun p => p) fun d s1 p v H1 ω1 t1 sm1 r1 => p v H1 (SV.fzw ω1) t1.fzw sm1.fzw r1.give
theorem ss_fr {i : Nat} {m : M D} (h : SS C s1 (sSet i m)) : SS C s1 (sSet i (eFr m)) := fun st σ H ω N s p => h st σ H ω N s (by
  unfold sSet eFr at p
  unfold sSet
  cases q : m st with
  | stuck => rw [q] at p; exact p
  | exc x w s1 => rw [q] at p; exact p
  | ok d s1 =>
    rw [q] at p
    simp only [bind_ok, kFr] at p ⊢
    intro σ' H' ω' t' sm'
    by_cases hi : i < s1.length
    · have := sm'.fzs (i := i) (d := d) (by rw [List.getElem?_set_self hi])
      rw [List.set_set] at this
      exact p σ' H' _ (t'.trans Tr.fzs) this
    · rw [List.set_eq_of_length_le (by omega)] at sm' p
      exact p σ' H' ω' t' sm')
end
end SV

namespace SV
open PySem PySem.Spec PyProof.Rows L2
section
variable {X : Cx}
end
end SV

namespace SV
open PySem PySem.Spec PyProof.Rows L2
def insU (k : Int) : List Int → List Int
  | [] => [k]
  | x :: r => if k < x then k :: x :: r else if k = x then x :: r else x :: insU k r
def usort (ns : List Int) : List Int := ns.foldl (fun r k => insU k r) []
def ins (k : Int) : List Int → List Int
  | [] => [k]
  | x :: r => if k ≤ x then k :: x :: r else x :: ins k r
def isort (ns : List Int) : List Int := ns.foldr ins []
theorem ins_perm {k : Int} : ∀ {r : List Int}, (ins k r).Perm (k :: r)
  | [] => .refl _
  | x :: r => by
    unfold ins
    split
    · exact .refl _
    · exact (List.Perm.cons x ins_perm).trans (List.Perm.swap k x r)
theorem ins_pw {k : Int} : ∀ {r : List Int}, r.Pairwise (· ≤ ·) → (ins k r).Pairwise (· ≤ ·)
  | [], _ => by simp [ins]
  | x :: r, h => by
    unfold ins
    have h1 := List.pairwise_cons.mp h
    split
    · rename_i hk
      refine List.pairwise_cons.mpr ⟨fun y hy => ?_, h⟩
      rcases List.mem_cons.mp hy with rfl | hy
      · exact hk
      · have := h1.1 y hy; omega
    · refine List.pairwise_cons.mpr ⟨fun y hy => ?_, ins_pw h1.2⟩
      rcases List.mem_cons.mp (ins_perm.mem_iff.mp hy) with rfl | hy
      · omega
      · exact h1.1 y hy
theorem isort_perm : ∀ {ns : List Int}, (isort ns).Perm ns
  | [] => .refl _
  | k :: ns => ins_perm.trans (List.Perm.cons k isort_perm)
theorem isort_pw : ∀ {ns : List Int}, (isort ns).Pairwise (· ≤ ·)
  | [] => List.Pairwise.nil
  | _ :: _ => ins_pw isort_pw
theorem isort_eq {ns ms : List Int} (h : ms.Pairwise (· ≤ ·)) (hp : ms.Perm ns) : isort ns = ms := List.Perm.eq_of_pairwise (le := fun a b : Int => a ≤ b) (fun a b _ _ h1 h2 => Int.le_antisymm h1 h2) isort_pw h (isort_perm.trans hp.symm)
def gSorted : List D → Option D
  | [d] => match lstOf d with
    | some xs => (match intsD xs with
      | some ns => some (.lst true ((isort ns).map .int))
      | none => none)
    | none => none
  | _ => none
theorem intsD_eq : ∀ {xs : List D} {ns : List Int}, intsD xs = some ns → xs = ns.map D.int
  | [], _, h => by cases h; rfl
  | d :: r, _, h => by
    cases d <;> simp only [intsD, reduceCtorEq] at h
    cases q : intsD r with
    | none => rw [q] at h; cases h
    | some ms => rw [q] at h; cases h; rw [intsD_eq q]; rfl
theorem reps_intsD {K : PySem.W.Frag} {H : Hp} {ω : Om} {τ : List Nat → Own} {p : List Nat} : ∀ {ns : List Int} {vs : List V} {k : Nat}, Reps K H ω τ p k (ns.map D.int) vs → vs = ns.map V.int
  | [], _, _, h => by cases h; rfl
  | a :: r, _, _, h => by cases h with | cons x y => cases x; rw [reps_intsD y]; rfl
theorem ints_reps {K : PySem.W.Frag} {H : Hp} {ω : Om} {τ : List Nat → Own} {p : List Nat} : ∀ {ns : List Int} {k : Nat}, Reps K H ω τ p k (ns.map D.int) (ns.map V.int)
  | [], _ => .nil
  | a :: r, _ => .cons .int ints_reps
theorem RepT.lst {K : PySem.W.Frag} {H : Hp} {ω : Om} {d : D} {v : V} {xs : List D} (h : RepT K H ω d v) (e : lstOf d = some xs) : ∃ a vs, v = .ref a ∧ SqL K H a vs ∧ Reps K H ω .res [] 0 xs vs := by
  cases d <;> simp only [lstOf, Option.some.injEq, reduceCtorEq] at e
  all_goals
    subst e
    obtain ⟨a, vs, rfl, h1, h2⟩ := h
  · exact ⟨a, vs, rfl, .of h1, h2⟩
  · exact ⟨a, vs, rfl, h1, h2⟩
theorem a_sorted {X : Cx} : AllocOp X.K (CallW X (.builtin "sorted")) gSorted := by
  intro H ω ds vs r Q hv e k
  unfold gSorted at e
  split at e
  · obtain ⟨v, _, rfl, h1, rfl⟩ := hv
    split at e
    · rename_i q
      split at e
      · rename_i ns q2
        cases e
        obtain ⟨a, vs, rfl, hS, rr⟩ := h1.lst q
        have ev := intsD_eq q2
        subst ev
        have := reps_intsD rr
        subst this
        refine ⟨_, cr_sortedI, a, ns, rfl, hS, fun ns' p hp hs hn => ?_⟩
        have es := isort_eq hs hp
        subst es
        exact k _ _ _ (.inr ⟨p, _, hn, rfl, rfl⟩) (Reps.newL hn (ints_reps (k := 0)))
      · cases e
    · cases e
  · cases e
end SV

namespace SV
open PySem PySem.Spec PyProof.Rows L2
section
variable {P : Program} {w : World} {A : Around} {E : Value → Shared → Prop} {s : Shared}
set_option maxHeartbeats 3200000 in
end
section
variable {X : Cx} {a : Addr}
def rSetL (K : PySem.W.Frag) (w : World) : List V → Hp → VK → Prop := fun vs H Q => ∃ (a : Addr) (ns : List Int), vs = [V.ref a] ∧ SqL K H a (ns.map V.int) ∧ ns.length ≤ 4000 ∧
  ∀ (p : Addr) (c : Nat), c ≤ ns.length → H p = none → Q (.ref p) (upd H p (SetO w p (fun j => decide (j ∈ ns)) c))
end
end SV

namespace SV
open PySem PySem.Spec PyProof.Rows L2
def ssR (o : Option (List Int)) (s : S) : Rs D := match o with
  | some ns => .ok (.lst true ((usort ns).map .int)) s
  | none => .stuck
def kSsE (ds : List D) (s : S) : Rs D := ssR (intsD ds) s
def kSs (vs : List Nat) (g : D → S → Option S) (t : M Bool) (m : M D) (ys : List D) (s : S) : Rs D := if ys.length ≤ 4000 then (lcL vs g t m ys (wipeS s vs)).bind kSsE else .stuck
def eSs (vs : List Nat) (g : D → S → Option S) (i : M (List D)) (t : M Bool) (m : M D) : M D := fun st => (i st).bind (kSs vs g t m)
theorem q_eSs {vs : List Nat} {g : D → S → Option S} {i : M (List D)} {t : M Bool} {m : M D} {st : S} : eSs vs g i t m st = (i st).bind (kSs vs g t m) := (rfl)
theorem q_kSs {vs : List Nat} {g : D → S → Option S} {t : M Bool} {m : M D} {ys : List D} {s : S} : kSs vs g t m ys s = if ys.length ≤ 4000 then (lcL vs g t m ys (wipeS s vs)).bind kSsE else .stuck := (rfl)
theorem q_kSsE {ds : List D} {s : S} : kSsE ds s = ssR (intsD ds) s := (rfl)
theorem q_ssR {ns : List Int} {s : S} : ssR (some ns) s = .ok (.lst true ((usort ns).map .int)) s := (rfl)
def ownO (ω : Om) (p : Addr) : Om := fun a => if a = p then some .oth else ω a
theorem ownO_same {ω : Om} {p : Addr} : ownO ω p p = some .oth := by unfold ownO; rw [if_pos rfl]
theorem ownO_ne {ω : Om} {p a : Addr} (h : a ≠ p) : ownO ω p a = ω a := by unfold ownO; rw [if_neg h]
section
variable {K : PySem.W.Frag} {R : Nat → Bool} {σ0 σ : L2.St} {st : S} {H H1 H2 : Hp} {ω ω1 ω2 : Om} {p : Addr} {o u : HO}
theorem Tr.newO (t : Tr H ω H1 ω1) (hp : H1 p = none) : Tr H ω (upd H1 p o) (ownO ω1 p) := by
  refine ⟨fun a vs h => Ext.new hp a _ (t.tup a vs h), fun a u h e => ?_, fun a h => Ext.dom (Ext.new hp) a (t.dom a h)⟩
  obtain ⟨h1, e1⟩ := t.keep a u h e
  exact ⟨Ext.new hp a _ h1, (ownO_ne (ne_of_none h1 hp)).trans e1⟩
theorem Sim.newO (s : Sim K R σ0 st σ H ω) (hp : H p = none) : Sim K R σ0 st σ (upd H p o) (ownO ω p) :=
  s.mv (fun a vs h => Ext.new hp a _ h) (fun a u i q h e => ⟨Ext.new hp a _ h, (ownO_ne (ne_of_none h hp)).trans e⟩) fun a u h e => ⟨Ext.new hp a _ h, (ownO_ne (ne_of_none h hp)).trans e⟩
theorem Tr.updO (t : Tr H ω H1 ω1) (hn : H p = none) (hp : H1 p = some u) (hu : ∀ vs, u ≠ .tup vs) : Tr H ω (upd H1 p o) ω1 := by
  refine ⟨fun a vs h => ?_, fun a u' h e => ?_, fun a h => ?_⟩
  · have h1 := t.tup a vs h
    have : a ≠ p := fun z => by rw [z, hp] at h1; cases h1; exact hu vs rfl
    rw [upd_ne this]; exact h1
  · obtain ⟨h1, e1⟩ := t.keep a u' h e
    have : a ≠ p := fun z => by rw [z, hn] at h; cases h
    rw [upd_ne this]; exact ⟨h1, e1⟩
  · by_cases z : a = p
    · rw [z, upd_same]; exact fun z => nomatch z
    · rw [upd_ne z]; exact t.dom a h
theorem Sim.updO (s : Sim K R σ0 st σ H ω) (hp : H p = some u) (hu : ∀ vs, u ≠ .tup vs) (hw : ω p = some .oth) : Sim K R σ0 st σ (upd H p o) ω := by
  have ne : ∀ {a : Addr} {x : Option Own}, ω a = x → x ≠ some .oth → a ≠ p := fun {a x} e hx z => by
    subst z; rw [hw] at e; exact hx e.symm
  exact s.mv (fun a vs h => by
    have : a ≠ p := fun z => by rw [z, hp] at h; cases h; exact hu vs rfl
    rw [upd_ne this]; exact h) (fun a u i q h e => ⟨by rw [upd_ne (ne e (fun z => nomatch z))]; exact h, e⟩) fun a u h e => ⟨by rw [upd_ne (ne e (fun z => nomatch z))]; exact h, e⟩
end
section
variable {C : Ct} {elt tg iter e : Expr} {ifs : List Expr} {scope : Scope} {own : List (Str × Nat)} {pos : Pos} {H H1 H2 : Hp} {ω ω1 ω2 : Om} {σ : L2.St}
def setO1 (d : Option D) : Option (List Int) := match d with
  | some d => (match lstOf d with
    | some xs => (match intsD xs with
      | some ns => if ns.length ≤ 4000 then some ns else none
      | none => none)
    | none => none)
  | none => none
def kSset (o : Opd) (s : S) : Rs D := ssR (setO1 (getO s o)) s
def eSset (m : M Opd) : M D := fun st => (m st).bind kSset
end
theorem q_eSset {m : M Opd} {st : S} : eSset m st = (m st).bind kSset := (rfl)
theorem q_kSset {o : Opd} {s : S} : kSset o s = ssR (setO1 (getO s o)) s := (rfl)
theorem q_setO1 {o : Bool} {ns : List Int} (h : ns.length ≤ 4000) : setO1 (some (.lst o (ns.map D.int))) = some ns := by
  show (match intsD (ns.map D.int) with | some ns => if ns.length ≤ 4000 then some ns else none | none => none) = some ns
  rw [intsD_map]
  simp only [if_pos h]
theorem q_sorted {o : Bool} {ns : List Int} : gSorted [.lst o (ns.map D.int)] = some (.lst true ((isort ns).map D.int)) := by
  show (match intsD (ns.map D.int) with | some ns => some (D.lst true ((isort ns).map .int)) | none => none) = _
  rw [intsD_map]
end SV

namespace SV
open PySem PySem.Spec PyProof.Rows L2
def lcL2 (vs : List Nat) (g : D → S → Option S) (t : M Bool) (n : M (List D)) : List D → S → Rs (List D)
  | [], st => .ok [] st
  | y :: ys, st => match g y st with
    | none => .stuck
    | some s => match t s with
      | .ok true s1 => (match n s1 with
        | .ok ds s2 => (lcL2 vs g t n ys (wipeS s2 vs)).map (ds ++ ·)
        | _ => .stuck)
      | .ok false s1 => lcL2 vs g t n ys (wipeS s1 vs)
      | _ => .stuck
def kIn (vs1 : List Nat) (g1 : D → S → Option S) (t1 : M Bool) (m : M D) (ys : List D) (s : S) : Rs (List D) := if ys.length ≤ 100000 then lcL vs1 g1 t1 m ys (wipeS s vs1) else .stuck
def lIn (vs1 : List Nat) (g1 : D → S → Option S) (i1 : M (List D)) (t1 : M Bool) (m : M D) : M (List D) := fun st => (i1 st).bind (kIn vs1 g1 t1 m)
def kLc2E (ds : List D) (s : S) : Rs D := if ds.length ≤ 100000 then .ok (.lst true ds) s else .stuck
def kLc2 (vs : List Nat) (g : D → S → Option S) (t : M Bool) (n : M (List D)) (ys : List D) (s : S) : Rs D := if ys.length ≤ 100000 then (lcL2 vs g t n ys (wipeS s vs)).bind kLc2E else .stuck
def eLc2 (vs : List Nat) (g : D → S → Option S) (i : M (List D)) (t : M Bool) (n : M (List D)) : M D := fun st => (i st).bind (kLc2 vs g t n)
theorem q_kIn {vs1 : List Nat} {g1 : D → S → Option S} {t1 : M Bool} {m : M D} {ys : List D} {s : S} : kIn vs1 g1 t1 m ys s = if ys.length ≤ 100000 then lcL vs1 g1 t1 m ys (wipeS s vs1) else .stuck := (rfl)
theorem q_lIn {vs1 : List Nat} {g1 : D → S → Option S} {i1 : M (List D)} {t1 : M Bool} {m : M D} {st : S} : lIn vs1 g1 i1 t1 m st = (i1 st).bind (kIn vs1 g1 t1 m) := (rfl)
theorem q_kLc2E {ds : List D} {s : S} : kLc2E ds s = if ds.length ≤ 100000 then .ok (.lst true ds) s else .stuck := (rfl)
theorem q_kLc2 {vs : List Nat} {g : D → S → Option S} {t : M Bool} {n : M (List D)} {ys : List D} {s : S} : kLc2 vs g t n ys s = if ys.length ≤ 100000 then (lcL2 vs g t n ys (wipeS s vs)).bind kLc2E else .stuck := (rfl)
theorem q_eLc2 {vs : List Nat} {g : D → S → Option S} {i : M (List D)} {t : M Bool} {n : M (List D)} {st : S} : eLc2 vs g i t n st = (i st).bind (kLc2 vs g t n) := (rfl)
theorem Trn.comp {H H1 H2 : Hp} {ω ω1 ω2 : Om} (a : Trn H ω H1 ω1) (b : Trn H1 ω1 H2 ω2) : Trn H ω H2 ω2 := ⟨fun x vs h => b.tup x vs (a.tup x vs h), fun x u h e => let z := a.fr x u h e; b.fr x u z.1 z.2⟩
section
variable {C : Ct} {elt tg iter tg1 iter1 e : Expr} {ifs ifs1 : List Expr} {scope : Scope} {own : List (Str × Nat)} {pos : Pos} {H H1 H2 : Hp} {ω ω1 ω2 : Om} {σ : L2.St}
end
end SV

namespace SV
open PySem PySem.Spec PyProof.Rows L2
def sIx (n d : Nat) (o : Option Int) : Nat := HT.sIx n d o
def cutL {α : Type} (xs : List α) (lo hi : Option Int) : List α := (xs.drop (sIx xs.length 0 lo)).take (sIx xs.length xs.length hi - sIx xs.length 0 lo)
theorem sIx_none {n d : Nat} : sIx n d none = d := rfl
theorem sIx_nat {n d k : Nat} : sIx n d (some (k : Int)) = min k n := HT.sIx_nat n d k
theorem cut_to {α : Type} {xs : List α} {k : Nat} : cutL xs none (some (k : Int)) = xs.take k := by
  unfold cutL
  rw [sIx_none, sIx_nat, List.drop_zero, Nat.sub_zero]
  by_cases h : k ≤ xs.length
  · rw [Nat.min_eq_left h]
  · rw [Nat.min_eq_right (by omega), List.take_of_length_le (by omega), List.take_of_length_le (by omega)]
theorem cut_from {α : Type} {xs : List α} {k : Nat} : cutL xs (some (k : Int)) none = xs.drop k := by
  unfold cutL
  rw [sIx_none, sIx_nat]
  by_cases h : k ≤ xs.length
  · rw [Nat.min_eq_left h, List.take_of_length_le (by rw [List.length_drop]; omega)]
  · rw [Nat.min_eq_right (by omega), List.drop_of_length_le (by omega), List.drop_of_length_le (by omega)]; simp
theorem cut_both {α : Type} {xs : List α} {j k : Nat} : cutL xs (some (j : Int)) (some (k : Int)) = (xs.take k).drop j := by
  unfold cutL
  rw [sIx_nat, sIx_nat]
  by_cases h : k ≤ xs.length
  · rw [Nat.min_eq_left h]
    by_cases h2 : j ≤ xs.length
    · rw [Nat.min_eq_left h2, List.drop_take]
    · rw [Nat.min_eq_right (by omega), List.drop_of_length_le (l := xs) (by omega), List.drop_of_length_le (l := xs.take k) (by rw [List.length_take]; omega)]; simp
  · rw [Nat.min_eq_right (by omega : xs.length ≤ k), List.take_of_length_le (l := xs) (by omega : xs.length ≤ k)]
    by_cases h2 : j ≤ xs.length
    · rw [Nat.min_eq_left h2, List.take_of_length_le (by rw [List.length_drop]; omega)]
    · rw [Nat.min_eq_right (by omega), List.drop_of_length_le (l := xs) (by omega), List.drop_of_length_le (l := xs) (by omega)]; simp
theorem frzdL_take {n : Nat} : ∀ {xs : List D}, frzdL xs = true → frzdL (xs.take n) = true := by
  intro xs
  induction xs generalizing n with
  | nil => intro _; simp [frzdL]
  | cons d r ih =>
    intro h
    simp only [frzdL, Bool.and_eq_true] at h
    cases n with
    | zero => rfl
    | succ n => exact (Bool.and_eq_true _ _).mpr ⟨h.1, ih h.2⟩
theorem frzdL_drop {n : Nat} : ∀ {xs : List D}, frzdL xs = true → frzdL (xs.drop n) = true := by
  intro xs
  induction xs generalizing n with
  | nil => intro _; simp [frzdL]
  | cons d r ih =>
    intro h
    cases n with
    | zero => exact h
    | succ n => simp only [frzdL, Bool.and_eq_true] at h; exact ih h.2
theorem cutL_map {α β : Type} {f : α → β} {xs : List α} {lo hi : Option Int} : cutL (xs.map f) lo hi = (cutL xs lo hi).map f := by
  unfold cutL
  rw [List.length_map, List.map_take, List.map_drop]
def slD (d : D) (lo hi : Option Int) : Option D := match d with
  | .lst _ xs => if frzdL xs = true then some (.lst true (cutL xs lo hi)) else none
  | .ro xs => if frzdL xs = true then some (.lst true (cutL xs lo hi)) else none
  | .tup xs => if frzdL xs = true then some (.tup (cutL xs lo hi)) else none
  | .str z => if z.length ≤ 100000 then some (.str (cutS z lo hi)) else none
  | _ => none
def gSl (bl bh : Bool) (ds : List D) : Option D := match bl, bh, ds with
  | false, false, [d] => slD d none none
  | true, false, [d, .int i] => slD d (some i) none
  | false, true, [d, .int j] => slD d none (some j)
  | true, true, [d, .int i, .int j] => slD d (some i) (some j)
  | _, _, _ => none
theorem q_sl00 {d : D} : gSl false false [d] = slD d none none := (rfl)
theorem q_sl10 {d : D} {i : Int} : gSl true false [d, .int i] = slD d (some i) none := (rfl)
theorem q_sl01 {d : D} {i : Int} : gSl false true [d, .int i] = slD d none (some i) := (rfl)
theorem q_sl11 {d : D} {i j : Int} : gSl true true [d, .int i, .int j] = slD d (some i) (some j) := (rfl)
theorem q_slL {o : Bool} {xs : List D} {lo hi : Option Int} (h : frzdL xs = true) : slD (.lst o xs) lo hi = some (.lst true (cutL xs lo hi)) := by show (if _ then _ else _) = _; rw [if_pos h]
theorem q_slR {xs : List D} {lo hi : Option Int} (h : frzdL xs = true) : slD (.ro xs) lo hi = some (.lst true (cutL xs lo hi)) := by show (if _ then _ else _) = _; rw [if_pos h]
theorem q_slT {xs : List D} {lo hi : Option Int} (h : frzdL xs = true) : slD (.tup xs) lo hi = some (.tup (cutL xs lo hi)) := by show (if _ then _ else _) = _; rw [if_pos h]
theorem q_slS {z : Str} {lo hi : Option Int} (h : z.length ≤ 100000) : slD (.str z) lo hi = some (.str (cutS z lo hi)) := by show (if _ then _ else _) = _; rw [if_pos h]
def SlW (X : Cx) (x : V) (lo hi : Option Int) (H : Hp) (Q : VK) : Prop := ∃ r, SlR X r ∧ r x lo hi H Q
theorem sl_w {X : Cx} : SlR X (SlW X) := fun pins s σ H x v vl vu lo hi sl Q I rx hs pl pu ⟨r, hr, h⟩ => hr pins s σ H x v vl vu lo hi sl Q I rx hs pl pu h
theorem Reps.cut {K : PySem.W.Frag} {H : Hp} {ω : Om} {τ : List Nat → Own} {p q : List Nat} {ds : List D} {vs : List V} {lo hi : Option Int} (hf : frzdL ds = true) (r : Reps K H ω τ p 0 ds vs) : Reps K H ω τ q 0 (cutL ds lo hi) (cutL vs lo hi) := by
  unfold cutL
  rw [rep_len r]
  exact ((r.drop (n := sIx vs.length 0 lo)).take).re (frzdL_take (frzdL_drop hf))
theorem slw_of {X : Cx} {H : Hp} {ω : Om} {d r : D} {v : V} {lo hi : Option Int} {Q : VK} (h : RepT X.K H ω d v) (e : slD d lo hi = some r) (k : ∀ v H' ω', New H ω H' ω' → Rep X.K H' ω' .res [] r v → Q v H') : SlW X v lo hi H Q := by
  cases d with
  | lst o xs =>
    simp only [slD] at e
    split at e
    · rename_i hf
      cases e
      obtain ⟨a, vs, rfl, h1, h2⟩ := h
      exact ⟨_, sl_list, a, vs, rfl, .of h1, fun p hp => k _ _ _ (.inr ⟨p, _, hp, rfl, rfl⟩) (Reps.newL hp (h2.cut hf))⟩
    · cases e
  | ro xs =>
    simp only [slD] at e
    split at e
    · rename_i hf
      cases e
      obtain ⟨a, vs, rfl, h1, h2⟩ := h
      exact ⟨_, sl_list, a, vs, rfl, h1, fun p hp => k _ _ _ (.inr ⟨p, _, hp, rfl, rfl⟩) (Reps.newL hp (h2.cut hf))⟩
    · cases e
  | tup xs =>
    simp only [slD] at e
    split at e
    · rename_i hf
      cases e
      obtain ⟨a, vs, rfl, h1, h2⟩ := h
      refine ⟨_, sl_tupA, a, vs, rfl, h1.sq, fun hw => ?_, fun _ p hp => k _ _ _ (.inr ⟨p, _, hp, rfl, rfl⟩) (Reps.newT hp (h2.cut hf))⟩
      have e2 : cutL xs lo hi = xs := by
        unfold cutL sIx
        rw [rep_len h2, hw.1, hw.2, List.drop_zero, Nat.sub_zero, ← rep_len h2, List.take_length]
      rw [e2] at k
      exact k _ _ _ (.inl ⟨rfl, rfl⟩) (.tup h1 h2)
    · cases e
  | str z =>
    simp only [slD] at e
    split at e
    · rename_i hz
      cases e
      cases (show v = .str z from h)
      exact ⟨_, sl_str, z, rfl, Nat.le_trans hz (by decide), k _ _ _ (.inl ⟨rfl, rfl⟩) .str⟩
    · cases e
  | _ => simp [slD] at e
section
variable {C : Ct} {a lo hi : Expr} {p2 pos : Pos}
theorem se_sl10 {ma ml : M Opd} (ha : SO C a ma) (hl : SO C lo ml) : SE C (.Subscript a (.Slice (some lo) none none p2) pos) (opA (gSl true false) (aCons ma (aCons ml aNil))) := fun st σ H ω Q s p =>
  ⟨_, pe_slice sl_w pe_w (po_some pe_w) po_none, opA_run (T := fun vs H Q => match vs with | [v, w] => ∃ i, w = .int i ∧ SlW C.X v (some i) none H Q | _ => False) (sa_cons ha (sa_cons hl sa_nil)) s p (by
    intro H ω ds vs r Q hv e k
    match ds, e with
    | [d, .int i], e =>
      obtain ⟨v, _, rfl, h1, w, _, rfl, h2, rfl⟩ := hv
      exact ⟨i, h2, slw_of h1 e k⟩)⟩
theorem se_sl01 {ma mh : M Opd} (ha : SO C a ma) (hh : SO C hi mh) : SE C (.Subscript a (.Slice none (some hi) none p2) pos) (opA (gSl false true) (aCons ma (aCons mh aNil))) := fun st σ H ω Q s p =>
  ⟨_, pe_slice sl_w pe_w po_none (po_some pe_w), opA_run (T := fun vs H Q => match vs with | [v, w] => ∃ i, w = .int i ∧ SlW C.X v none (some i) H Q | _ => False) (sa_cons ha (sa_cons hh sa_nil)) s p (by
    intro H ω ds vs r Q hv e k
    match ds, e with
    | [d, .int i], e =>
      obtain ⟨v, _, rfl, h1, w, _, rfl, h2, rfl⟩ := hv
      exact ⟨i, h2, slw_of h1 e k⟩)⟩
end
def kI (o : Opd) (s : S) : Rs Opd := match getO s o with
  | some (.int _) => .ok o s
  | _ => .stuck
def oI (m : M Opd) : M Opd := fun st => (m st).bind kI
theorem q_oI {m : M Opd} {st : S} : oI m st = (m st).bind kI := (rfl)
theorem q_kIv {i : Int} {s : S} : kI (.v (.int i)) s = .ok (.v (.int i)) s := (rfl)
def kIs (j : Nat) (o : Option (Option D)) (s : S) : Rs Opd := match o with
  | some (some (.int _)) => .ok (.s j) s
  | _ => .stuck
theorem q_kIs {j : Nat} {s : S} : kI (.s j) s = kIs j (s[j]?) s := by
  unfold kI kIs
  rw [r_getOs]
  cases s[j]? with
  | none => rfl
  | some o => cases o with
    | none => rfl
    | some d => cases d <;> rfl
theorem q_kIs1 {j : Nat} {s : S} {i : Int} : kIs j (some (some (.int i))) s = .ok (.s j) s := (rfl)
section
variable {C : Ct} {e : Expr} {W : TA}
def SAg (C : Ct) (W : TA) (ms : M (List Opd)) : Prop := ∀ n st σ H ω Q, C.Sim st σ H ω → PostA C σ H ω n Q (ms st) → W σ H Q
theorem sag_of {es : List Expr} {ms : M (List Opd)} (h : SA C es ms) : SAg C (WL C.X es) ms := h
theorem sag_gen {P : V → Prop} {m : M Opd} {ms : M (List Opd)} (h : ∀ st σ H ω Q, C.Sim st σ H ω → PostO C σ H ω Q (m st) → WE C.X e σ H fun v H1 => P v ∧ Q v H1) (hs : SAg C W ms) :
    SAg C (fun σ H Q => WE C.X e σ H fun v H1 => P v ∧ W σ H1 fun vs H2 => Q (v :: vs) H2) (aCons m ms) := fun n st σ H ω Q s p => by
  refine h st σ H ω _ s ?_
  unfold aCons at p
  cases q : m st with
  | stuck => rw [q] at p; exact p
  | exc x w s1 => rw [q] at p; exact p
  | ok o s1 =>
    rw [q] at p
    simp only [bind_ok] at p
    have fin : ∀ (H1 : Hp) (ω1 : Om) (v : V), Tr H ω H1 ω1 → C.Sim s1 σ H1 ω1 → (∀ os s2 vs H2 ω2, ms s1 = .ok os s2 → Tr H1 (hide ω1) H2 ω2 → C.Sim s2 σ H2 ω2 → OReps C.X.K H2 ω2 σ (n + 1) os vs → OReps C.X.K H2 (joinO H1 ω1 n ω2) σ n (o :: os) (v :: vs)) →
        W σ H1 fun vs H2 => Q (v :: vs) H2 := fun H1 ω1 v t1 sm1 mk => by
      refine hs (n + 1) s1 σ H1 (hide ω1) _ sm1.hid ?_
      cases q2 : ms s1 with
      | stuck => rw [q2] at p; exact p
      | exc x w s2 => rw [q2] at p; exact PX.pre t1.hid p
      | ok os s2 =>
        rw [q2] at p
        simp only [bind_ok] at p
        intro vs H2 ω2 t2 sm2 r
        exact p (v :: vs) H2 (joinO H1 ω1 n ω2) (t1.join t2) (sm2.join t2) (mk os s2 vs H2 ω2 q2 t2 sm2 r)
    cases o with
    | v d => exact fun v H1 ω1 t1 sm1 r1 => fin H1 ω1 v t1 sm1 fun os s2 vs H2 ω2 _ t2 _ r => .v (r1.joinL t2) (r.joinR t2)
    | s i => exact fun v H1 ω1 t1 sm1 e1 => fin H1 ω1 v t1 sm1 fun os s2 vs H2 ω2 _ t2 _ r => .s e1 (r.joinR t2)
theorem so_int {m : M Opd} (h : SO C e m) : ∀ st σ H ω Q, C.Sim st σ H ω → PostO C σ H ω Q (oI m st) → WE C.X e σ H fun v H1 => (∃ i, v = .int i) ∧ Q v H1 := fun st σ H ω Q s p => by
  refine h st σ H ω _ s ?_
  unfold oI at p
  cases q : m st with
  | stuck => rw [q] at p; exact p
  | exc x w s1 => rw [q] at p; exact p
  | ok o s1 =>
    rw [q] at p
    simp only [bind_ok, kI] at p
    cases qo : getO s1 o with
    | none => rw [qo] at p; exact p.elim
    | some d =>
      rw [qo] at p
      cases d with
      | int i =>
        simp only at p
        cases o with
        | v d =>
          cases qo
          exact fun v H1 ω1 t1 sm1 r1 => ⟨by cases r1; exact ⟨i, rfl⟩, p v H1 ω1 t1 sm1 r1⟩
        | s j =>
          refine fun v H1 ω1 t1 sm1 e1 => ⟨?_, p v H1 ω1 t1 sm1 e1⟩
          have h' : s1[j]? = some (some (.int i)) := by
            simp only [getO] at qo
            cases q : s1[j]? with
            | none => rw [q] at qo; cases qo
            | some z => rw [q] at qo; exact congrArg some qo
          obtain ⟨v', e', r'⟩ := sm1.at_ j _ h'
          rw [e1] at e'
          cases e'
          cases r'
          exact ⟨i, rfl⟩
      | _ => exact p.elim
theorem sag_cons {m : M Opd} {ms : M (List Opd)} (h : SO C e m) (hs : SAg C W ms) : SAg C (fun σ H Q => WE C.X e σ H fun v H1 => True ∧ W σ H1 fun vs H2 => Q (v :: vs) H2) (aCons m ms) := sag_gen (P := fun _ => True) (fun st σ H ω Q s p => h st σ H ω _ s (by
  cases q : m st with
  | stuck => rw [q] at p; exact p
  | exc x w s1 => rw [q] at p; exact p
  | ok o s1 =>
    rw [q] at p
    cases o with
    | v d => exact fun v H1 ω1 t1 sm1 r1 => ⟨trivial, p v H1 ω1 t1 sm1 r1⟩
    | s i => exact fun v H1 ω1 t1 sm1 r1 => ⟨trivial, p v H1 ω1 t1 sm1 r1⟩)) hs
theorem opA_runG {g : List D → Option D} {ms : M (List Opd)} {st : S} {σ : L2.St} {H : Hp} {ω : Om} {Q : VK} {T : List V → Hp → VK → Prop} (hm : SAg C W ms) (s : C.Sim st σ H ω) (p : PostE C σ H ω Q (opA g ms st)) (hg : AllocOp C.X.K T g) : W σ H fun vs H1 => T vs H1 Q := by
  refine hm 0 st σ H ω _ s ?_
  unfold opA at p
  cases q : ms st with
  | stuck => rw [q] at p; exact p
  | exc x w s1 => rw [q] at p; exact p
  | ok os s1 =>
    rw [q] at p
    simp only [bind_ok] at p
    intro vs H1 ω1 t1 sm1 r1
    cases e2 : tops s1 os with
    | none => rw [e2] at p; exact p.elim
    | some ds =>
      rw [e2] at p
      cases e3 : g ds with
      | none => simp only [e3] at p; exact p.elim
      | some r =>
        simp only [e3] at p
        exact hg H1 (fzw ω1) ds vs r Q (repTs_of sm1 r1 e2) e3 fun v H' ω' n rr => p v H' ω' (n.tr t1.fzw) (n.sim sm1.fzw) rr
end
section
variable {C : Ct} {a lo hi : Expr} {p2 pos : Pos}
def T3 (X : Cx) : List V → Hp → VK → Prop := fun vs H Q => match vs with
  | [v, .int i, .int j] => SlW X v (some i) (some j) H Q
  | _ => False
theorem se_sl11 {ma ml mh : M Opd} (ha : SO C a ma) (hl : SO C lo ml) (hh : SO C hi mh) : SE C (.Subscript a (.Slice (some lo) (some hi) none p2) pos) (opA (gSl true true) (aCons ma (aCons (oI ml) (aCons mh aNil)))) := fun st σ H ω Q s p => by
  have key := opA_runG (T := T3 C.X) (sag_cons ha (sag_gen (P := fun w => ∃ i, w = .int i) (so_int hl) (sag_of (sa_cons hh sa_nil)))) s p (by
    intro H ω ds vs r Q hv e k
    match ds, e with
    | [d, .int i, .int j], e =>
      obtain ⟨v, _, rfl, h1, w, _, rfl, h2, u, _, rfl, h3, rfl⟩ := hv
      cases (show w = .int i from h2)
      cases (show u = .int j from h3)
      exact slw_of h1 e k)
  refine ⟨_, pe_slice sl_w pe_w (po_some pe_w) (po_some pe_w), ?_⟩
  show WE C.X a σ H fun x H1 => WE C.X lo σ H1 fun w H2 => ∃ i, w = .int i ∧ WE C.X hi σ H2 fun u H3 => ∃ j, u = .int j ∧ SlW C.X x (some i) (some j) H3 Q
  have e : (fun (x : V) (H1 : Hp) => True ∧ WE C.X lo σ H1 fun w H2 => (∃ i, w = .int i) ∧ WL C.X [hi] σ H2 fun vs H3 => T3 C.X (x :: w :: vs) H3 Q) = fun x H1 => WE C.X lo σ H1 fun w H2 => ∃ i, w = .int i ∧ WE C.X hi σ H2 fun u H3 => ∃ j, u = .int j ∧ SlW C.X x (some i) (some j) H3 Q := by
    funext x H1
    rw [true_and]
    congr 1
    funext w H2
    refine propext ⟨?_, ?_⟩
    · rintro ⟨⟨i, rfl⟩, h⟩
      refine ⟨i, rfl, ?_⟩
      have e2 : (fun (u : V) (H3 : Hp) => T3 C.X [x, .int i, u] H3 Q) = fun u H3 => ∃ j, u = .int j ∧ SlW C.X x (some i) (some j) H3 Q := by
        funext u H3
        cases u <;> simp [T3]
      have h : WE C.X hi σ H2 (fun (u : V) (H3 : Hp) => T3 C.X [x, .int i, u] H3 Q) := h
      rw [e2] at h
      exact h
    · rintro ⟨i, rfl, h⟩
      refine ⟨⟨i, rfl⟩, ?_⟩
      have e2 : (fun (u : V) (H3 : Hp) => T3 C.X [x, .int i, u] H3 Q) = fun u H3 => ∃ j, u = .int j ∧ SlW C.X x (some i) (some j) H3 Q := by
        funext u H3
        cases u <;> simp [T3]
      show WE C.X hi σ H2 (fun (u : V) (H3 : Hp) => T3 C.X [x, .int i, u] H3 Q)
      rw [e2]
      exact h
  rw [← e]
  exact key
end
end SV

namespace SV
open PySem PySem.Spec PyProof.Rows L2
def kForMv (i v : Nat) (b : M Fl) (o : Option (Option D)) (st : S) : Rs Fl := match o with
  | some (some (.lst true xs)) => forL (gN v) b xs (st.set i none)
  | _ => .stuck
def sForMv (i v : Nat) (b : M Fl) : M Fl := fun st => kForMv i v b (st[i]?) st
theorem q_sForMv {i v : Nat} {b : M Fl} {st : S} : sForMv i v b st = kForMv i v b (st[i]?) st := (rfl)
theorem q_kForMv {i v : Nat} {b : M Fl} {xs : List D} {st : S} : kForMv i v b (some (some (.lst true xs))) st = forL (gN v) b xs (st.set i none) := (rfl)
def gvw (i : Nat) (ω : Om) : Om := fun a => match ω a with
  | some (.sl j q) => if j = i then some .oth else some (.sl j q)
  | x => x
def tkw (i k : Nat) (H : Hp) (ω : Om) (ω2 : Om) : Om := fun a => match H a, ω a with
  | some _, some (.sl j (n :: q)) => if j = i ∧ n = k then some (.res q) else ω2 a
  | _, _ => ω2 a
section
variable {H H2 : Hp} {ω ω2 : Om} {i k : Nat} {a : Addr}
theorem tkw_hit {u : HO} {q : List Nat} (h : H a = some u) (e : ω a = some (.sl i (k :: q))) : tkw i k H ω ω2 a = some (.res q) := by
  unfold tkw; rw [h, e]; simp
theorem tkw_ne (h : ∀ q, ω a ≠ some (.sl i (k :: q))) : tkw i k H ω ω2 a = ω2 a := by
  unfold tkw
  split
  · rename_i hh he
    split
    · rename_i hc
      obtain ⟨rfl, rfl⟩ := hc
      exact absurd he (h _)
    · rfl
  · rfl
theorem tkw_no (h : H a = none) : tkw i k H ω ω2 a = ω2 a := by unfold tkw; rw [h]
end
section
variable {C : Ct} {pos p2 p3 : Pos} {x y : Str}
end
end SV

namespace SV
open PySem PySem.Spec PyProof.Rows L2
def tyD (T : String) (d : D) : Bool := match d with
  | .lst _ _ => T == "list"
  | .ro _ => T == "list"
  | .str _ => T == "str"
  | _ => false
def oTr (T : String) (o : Opd) (x : Option D) (s : S) : Rs Opd := match x with
  | some d => if tyD T d = true then .ok o s else .stuck
  | none => .stuck
def kTy (T : String) (o : Opd) (s : S) : Rs Opd := oTr T o (getO s o) s
def oTy (T : String) (m : M Opd) : M Opd := fun st => (m st).bind (kTy T)
theorem q_oTy {T : String} {m : M Opd} {st : S} : oTy T m st = (m st).bind (kTy T) := (rfl)
theorem q_kTy {T : String} {o : Opd} {s : S} : kTy T o s = oTr T o (getO s o) s := (rfl)
theorem q_oTrL {o : Opd} {b : Bool} {xs : List D} {s : S} : oTr "list" o (some (.lst b xs)) s = .ok o s := by show (if tyD "list" (.lst b xs) = true then Rs.ok o s else .stuck) = _; exact if_pos (by simp [tyD])
theorem q_oTrR {o : Opd} {xs : List D} {s : S} : oTr "list" o (some (.ro xs)) s = .ok o s := by show (if tyD "list" (.ro xs) = true then Rs.ok o s else .stuck) = _; exact if_pos (by simp [tyD])
theorem q_oTrS {o : Opd} {z : Str} {s : S} : oTr "str" o (some (.str z)) s = .ok o s := by show (if tyD "str" (.str z) = true then Rs.ok o s else .stuck) = _; exact if_pos (by simp [tyD])
theorem tyD_v {K : PySem.W.Frag} {H : Hp} {ω : Om} {τ : List Nat → Own} {p : List Nat} {T : String} {d : D} {v : V} (r : Rep K H ω τ p d v) (h : tyD T d = true) : tyV K T v H := by
  cases d <;> simp only [tyD, beq_iff_eq, Bool.false_eq_true] at h
  · cases r; exact h
  · cases r with | lst h1 _ _ => exact .inl ⟨h, _, .of h1⟩
  · cases r with | ro h1 _ => exact .inl ⟨h, _, h1.sq⟩
section
variable {C : Ct} {e : Expr} {W : TA}
theorem sag_genH {P : V → Hp → Prop} {m : M Opd} {ms : M (List Opd)} (h : ∀ st σ H ω Q, C.Sim st σ H ω → PostO C σ H ω Q (m st) → WE C.X e σ H fun v H1 => P v H1 ∧ Q v H1) (hs : SAg C W ms) :
    SAg C (fun σ H Q => WE C.X e σ H fun v H1 => P v H1 ∧ W σ H1 fun vs H2 => Q (v :: vs) H2) (aCons m ms) := fun n st σ H ω Q s p => by
  refine h st σ H ω _ s ?_
  unfold aCons at p
  cases q : m st with
  | stuck => rw [q] at p; exact p
  | exc x w s1 => rw [q] at p; exact p
  | ok o s1 =>
    rw [q] at p
    simp only [bind_ok] at p
    have fin : ∀ (H1 : Hp) (ω1 : Om) (v : V), Tr H ω H1 ω1 → C.Sim s1 σ H1 ω1 → (∀ os s2 vs H2 ω2, ms s1 = .ok os s2 → Tr H1 (hide ω1) H2 ω2 → C.Sim s2 σ H2 ω2 → OReps C.X.K H2 ω2 σ (n + 1) os vs → OReps C.X.K H2 (joinO H1 ω1 n ω2) σ n (o :: os) (v :: vs)) →
        W σ H1 fun vs H2 => Q (v :: vs) H2 := fun H1 ω1 v t1 sm1 mk => by
      refine hs (n + 1) s1 σ H1 (hide ω1) _ sm1.hid ?_
      cases q2 : ms s1 with
      | stuck => rw [q2] at p; exact p
      | exc x w s2 => rw [q2] at p; exact PX.pre t1.hid p
      | ok os s2 =>
        rw [q2] at p
        simp only [bind_ok] at p
        intro vs H2 ω2 t2 sm2 r
        exact p (v :: vs) H2 (joinO H1 ω1 n ω2) (t1.join t2) (sm2.join t2) (mk os s2 vs H2 ω2 q2 t2 sm2 r)
    cases o with
    | v d => exact fun v H1 ω1 t1 sm1 r1 => fin H1 ω1 v t1 sm1 fun os s2 vs H2 ω2 _ t2 _ r => .v (r1.joinL t2) (r.joinR t2)
    | s i => exact fun v H1 ω1 t1 sm1 e1 => fin H1 ω1 v t1 sm1 fun os s2 vs H2 ω2 _ t2 _ r => .s e1 (r.joinR t2)
theorem so_ty {T : String} {m : M Opd} (h : SO C e m) : ∀ st σ H ω Q, C.Sim st σ H ω → PostO C σ H ω Q (oTy T m st) → WE C.X e σ H fun v H1 => tyV C.X.K T v H1 ∧ Q v H1 := fun st σ H ω Q s p => by
  refine h st σ H ω _ s ?_
  unfold oTy at p
  cases q : m st with
  | stuck => rw [q] at p; exact p
  | exc x w s1 => rw [q] at p; exact p
  | ok o s1 =>
    rw [q] at p
    simp only [bind_ok, kTy, oTr] at p
    cases qo : getO s1 o with
    | none => rw [qo] at p; exact p.elim
    | some d =>
      rw [qo] at p
      simp only at p
      by_cases hd : tyD T d = true
      · rw [if_pos hd] at p
        cases o with
        | v d' =>
          cases qo
          exact fun v H1 ω1 t1 sm1 r1 => ⟨tyD_v r1 hd, p v H1 ω1 t1 sm1 r1⟩
        | s j =>
          refine fun v H1 ω1 t1 sm1 e1 => ⟨?_, p v H1 ω1 t1 sm1 e1⟩
          have h' : s1[j]? = some (some d) := by
            simp only [getO] at qo
            cases q : s1[j]? with
            | none => rw [q] at qo; cases qo
            | some z => rw [q] at qo; exact congrArg some qo
          obtain ⟨v', e', r'⟩ := sm1.at_ j _ h'
          rw [e1] at e'
          cases e'
          exact tyD_v r' hd
      · rw [if_neg hd] at p; exact p.elim
theorem opS_runG {f : List D → Option D} {ms : M (List Opd)} {st : S} {σ : L2.St} {H : Hp} {ω : Om} {Q : VK} {T : List V → Hp → VK → Prop} (hm : SAg C W ms) (s : C.Sim st σ H ω) (p : PostE C σ H ω Q (opS f ms st))
    (hf : ∀ (H : Hp) (ds : List D) (vs : List V) (r : D), VwL C.X.K H ds vs → f ds = some r → ∃ u, scl r = some u ∧ ∀ Q : VK, Q u H → T vs H Q) : W σ H fun vs H1 => T vs H1 Q := by
  refine hm 0 st σ H ω _ s ?_
  unfold opS at p
  cases q : ms st with
  | stuck => rw [q] at p; exact p
  | exc x w s1 => rw [q] at p; exact p
  | ok os s1 =>
    rw [q] at p
    simp only [bind_ok] at p
    intro vs H1 ω1 t1 sm1 r1
    cases e2 : getL s1 os with
    | none => rw [e2] at p; exact p.elim
    | some ds =>
      rw [e2] at p
      cases e3 : f ds with
      | none => simp only [e3] at p; exact p.elim
      | some r =>
        simp only [e3] at p
        obtain ⟨u, hu, k⟩ := hf H1 ds vs r (r1.vws sm1 e2) e3
        exact k Q (p u H1 ω1 t1 sm1 (scl_rep hu))
end
def ScM (X : Cx) (id : String) (f : List D → Option D) : Prop := ∀ (H : Hp) (ds : List D) (vs : List V) (r : D), VwL X.K H ds vs → f ds = some r → ∃ u, scl r = some u ∧ ∀ Q : VK, Q u H → match vs with
  | v :: us => MtW X id v us H Q
  | [] => False
section
variable {C : Ct} {a e : Expr} {es : List Expr} {cpos apos : Pos} {name : Str} {T id : String}
theorem se_mS {f : List D → Option D} {mo : M Opd} {ms : M (List Opd)} (hf : ScM C.X id f) (pa : PlainAttrs T) (slot : Slot T name id) (hty : typeOf (.builtin id) = pure (.type "method_descriptor")) (ho : SO C a mo) (hs : SA C (e :: es) ms)
    (hbase : attributeBase a name C.X.env (eval a C.X.env) = eval a C.X.env := by rfl)
    (hfew : ((backTo cpos (starEach (e :: es) C.X.env)).all (fun x => !x.1) && (backToKw cpos (keywordEach [] C.X.env)).all (fun x => x.1.isSome)
      && decide ((e :: es).length + ([] : List Keyword).length + (if ([] : List Keyword).isEmpty then 0 else 1) < 30)) = true := by rfl)
    (hline : (apos.endLine == cpos.line) = true := by rfl) (hst : StarOk C.X.env (e :: es) := by repeat' (first | exact trivial | exact rfl | constructor)) (hse : starEach (e :: es) C.X.env = (false, eval e C.X.env) :: starEach es C.X.env := by rfl) (hpl : (backTo cpos (starEach es C.X.env)).any (·.1) = false := by rfl) :
    SE C (.Call (.Attribute a name apos) (e :: es) [] cpos) (opS f (aCons (oTy T mo) ms)) := fun st σ H ω Q s p =>
  ⟨_, pe_bm pa slot hty mt_w pe_w (pa_wl hst) hbase hfew hline hse hpl, opS_runG (T := fun vs H Q => match vs with | v :: us => MtW C.X id v us H Q | [] => False) (sag_genH (so_ty ho) (sag_of hs)) s p hf⟩
def fCount : List D → Option D
  | [d, .int k] => match lstOf d with
    | some xs => (match intsD xs with
      | some ns => some (.int (ns.count k : Nat))
      | none => none)
    | none => none
  | _ => none
theorem q_count {o : Bool} {ns : List Int} {k : Int} : fCount [.lst o (ns.map D.int), .int k] = some (.int (ns.count k : Nat)) := by
  show (match intsD (ns.map D.int) with | some ns => some (D.int (ns.count k : Nat)) | none => none) = _
  rw [intsD_map]
theorem VwL.ints {K : PySem.W.Frag} {H : Hp} : ∀ {ns : List Int} {vs : List V}, VwL K H (ns.map D.int) vs → vs = ns.map V.int
  | [], _, h => h
  | n :: ns, _, h => by
    obtain ⟨v, r, rfl, h1, h2⟩ := h
    rw [h1.int, VwL.ints h2]; rfl
theorem sm_count {X : Cx} : ScM X "list.count" fCount := by
  intro H ds vs r hv e
  unfold fCount at e
  split at e
  · obtain ⟨v, _, rfl, h1, w, _, rfl, h2, rfl⟩ := hv
    split at e
    · rename_i q
      split at e
      · rename_i q2
        cases e
        obtain ⟨a, us, rfl, hS, hv, _⟩ := h1.lst q
        have ev := intsD_eq q2
        subst ev
        rw [hv.ints] at hS
        exact ⟨_, rfl, fun Q k => ⟨_, mt_lcount, a, _, _, rfl, by rw [h2.int], hS, k⟩⟩
      · cases e
    · cases e
  · cases e
end
def ch2R (o : Option D) (s : S) : Rs D := match o with
  | some (.bl b) => .ok (.bl b) s
  | _ => .stuck
def kCh2 (g : List D → Option D) (j : Int) (o : Opd) (s : S) : Rs D := ch2R ((getO s o).bind fun z => g [.int j, z]) s
def kCh1 (g : List D → Option D) (mc : M Opd) (j : Int) (s : S) : Rs D := (mc s).bind (kCh2 g j)
def chR (g : List D → Option D) (mc : M Opd) (j : Int) (o : Option D) (s : S) : Rs D := match o with
  | some (.bl b) => if b = true then kCh1 g mc j s else .ok (.bl false) s
  | _ => .stuck
def chL (f g : List D → Option D) (mc : M Opd) (x : Option (List D)) (s : S) : Rs D := match x with
  | some [x, .int j] => chR g mc j (f [x, .int j]) s
  | _ => .stuck
def kCh (f g : List D → Option D) (mc : M Opd) (os : List Opd) (s : S) : Rs D := chL f g mc (getL s os) s
def eCh (f g : List D → Option D) (ma mb mc : M Opd) : M D := fun st => (aCons ma (aCons mb aNil) st).bind (kCh f g mc)
theorem q_eCh {f g : List D → Option D} {ma mb mc : M Opd} {st : S} : eCh f g ma mb mc st = (aCons ma (aCons mb aNil) st).bind (kCh f g mc) := (rfl)
theorem q_kCh {f g : List D → Option D} {mc : M Opd} {os : List Opd} {s : S} : kCh f g mc os s = chL f g mc (getL s os) s := (rfl)
theorem q_chL {f g : List D → Option D} {mc : M Opd} {x : D} {j : Int} {s : S} : chL f g mc (some [x, .int j]) s = chR g mc j (f [x, .int j]) s := (rfl)
theorem q_chR {g : List D → Option D} {mc : M Opd} {b : Bool} {j : Int} {s : S} : chR g mc j (some (.bl b)) s = if b = true then kCh1 g mc j s else .ok (.bl false) s := (rfl)
theorem q_kCh1 {g : List D → Option D} {mc : M Opd} {j : Int} {s : S} : kCh1 g mc j s = (mc s).bind (kCh2 g j) := (rfl)
def ch2O (g : List D → Option D) (j : Int) (o : Option D) (s : S) : Rs D := match o with
  | some z => ch2R (g [.int j, z]) s
  | none => .stuck
theorem q_kCh2 {g : List D → Option D} {j : Int} {o : Opd} {s : S} : kCh2 g j o s = ch2O g j (getO s o) s := by unfold kCh2 ch2O; cases getO s o <;> rfl
theorem q_ch2O {g : List D → Option D} {j : Int} {z : D} {s : S} : ch2O g j (some z) s = ch2R (g [.int j, z]) s := (rfl)
theorem q_ch2R {b : Bool} {s : S} : ch2R (some (.bl b)) s = .ok (.bl b) s := (rfl)
section
variable {C : Ct} {a b c : Expr} {pos : Pos}
theorem ch_run {op op' : CmpOp} {f g : List D → Option D} {ma mb mc : M Opd} (hf : Sc2 C.X (compareOp op) f) (hg : Sc2 C.X (compareOp op') g) (ha : SO C a ma) (hb : SO C b mb) (hc : SO C c mc) {st : S} {σ : L2.St} {H : Hp} {ω : Om} {Q : VK} (s : C.Sim st σ H ω) (p : PostE C σ H ω Q (eCh f g ma mb mc st)) :
    tChain (WO C.X (compareOp op)) (WO C.X (compareOp op')) (WE C.X a) (WE C.X b) (WE C.X c) σ H Q := by
  show WE C.X a σ H fun x H1 => WE C.X b σ H1 fun y H2 => WO C.X (compareOp op) x y H2 fun z H3 => ∃ k, z = .bl k ∧ (if k = true then WE C.X c σ H3 fun w' H4 => WO C.X (compareOp op') y w' H4 Q else Q (.bl false) H3)
  refine sa_cons ha (sa_cons hb sa_nil) 0 st σ H ω (fun vs H2 => match vs with | [x, y] => WO C.X (compareOp op) x y H2 fun z H3 => ∃ k, z = .bl k ∧ (if k = true then WE C.X c σ H3 fun w' H4 => WO C.X (compareOp op') y w' H4 Q else Q (.bl false) H3) | _ => False) s ?_
  unfold eCh at p
  cases q : aCons ma (aCons mb aNil) st with
  | stuck => rw [q] at p; exact p
  | exc x w s1 => rw [q] at p; exact p
  | ok os s1 =>
    rw [q] at p
    simp only [bind_ok, kCh] at p
    intro vs H1 ω1 t1 sm1 r1
    cases e2 : getL s1 os with
    | none => rw [e2] at p; exact p.elim
    | some ds =>
      rw [e2] at p
      have hv := r1.vws sm1 e2
      match ds, p, hv with
      | [x, .int j], p, hv =>
        simp only [chL] at p
        obtain ⟨vx, _, rfl, h1, vy, _, rfl, h2, rfl⟩ := hv
        cases e3 : f [x, .int j] with
        | none => rw [e3] at p; exact p.elim
        | some r =>
          rw [e3] at p
          obtain ⟨u, hu, k⟩ := hf H1 x (.int j) vx vy r h1 h2 e3
          refine k _ ?_
          cases r with
          | bl kb =>
            cases hu
            refine ⟨kb, rfl, ?_⟩
            simp only [chR] at p
            cases kb with
            | false => exact p _ H1 ω1 t1 sm1 .bl
            | true =>
              simp only [if_true, kCh1] at p ⊢
              have p := PostE.pre (Tr.hid t1) p
              refine hc.then sm1.hid p (fun _ _ _ p => p) (fun p => p) fun o s2 p v H2 ω2 t2 sm2 r2 => ?_
              simp only [kCh2] at p
              cases e4 : getO s2 o with
              | none => rw [e4] at p; exact p.elim
              | some z =>
                rw [e4] at p
                simp only [Option.bind_some] at p
                obtain ⟨_, us, ee, r3, _⟩ := r2.vw1 sm2 e4
                cases ee
                cases e5 : g [.int j, z] with
                | none => rw [e5] at p; exact p.elim
                | some r =>
                  rw [e5] at p
                  cases r with
                  | bl kb =>
                    have hy := h2.int
                    subst hy
                    obtain ⟨u, hu, k⟩ := hg H2 (.int j) z (.int j) v _ ⟨ω2, .res, [], .int⟩ r3 e5
                    cases hu
                    exact k _ (p _ H2 ω2 t2 sm2 .bl)
                  | _ => exact p.elim
          | _ => exact p.elim
      | [], p, _ => exact p.elim
      | [_], p, _ => exact p.elim
      | _ :: d2 :: _ :: _, p, _ => cases d2 <;> exact p.elim
      | [_, .non], p, _ => exact p.elim
      | [_, .bl _], p, _ => exact p.elim
      | [_, .str _], p, _ => exact p.elim
      | [_, .fn _], p, _ => exact p.elim
      | [_, .ty _], p, _ => exact p.elim
      | [_, .tup _], p, _ => exact p.elim
      | [_, .lst _ _], p, _ => exact p.elim
      | [_, .ro _], p, _ => exact p.elim
      | [_, .dct _ _ _], p, _ => exact p.elim
      | [_, .dz _ _ _], p, _ => exact p.elim
      | [_, .ins _ _ _ _], p, _ => exact p.elim
      | [_, .xc _ _], p, _ => exact p.elim
theorem se_ch {op op' : CmpOp} {f g : List D → Option D} {ma mb mc : M Opd} (hf : Sc2 C.X (compareOp op) f) (hg : Sc2 C.X (compareOp op') g) (ha : SO C a ma) (hb : SO C b mb) (hc : SO C c mc) (hm : lastMarks [op, op'] [b, c] = false := by with_unfolding_all rfl) :
    SE C (.Compare a [op, op'] [b, c] pos) (eCh f g ma mb mc) := fun st σ H ω Q s p => ⟨_, pe_chain op_w op_w pe_w pe_w pe_w hm, ch_run hf hg ha hb hc s p⟩
end
end SV

namespace SV
open PySem PySem.Spec PyProof.Rows L2
theorem scl_flat {d : D} {v : V} (h : scl d = some v) : flatV v = true := by
  cases d <;> simp only [scl, Option.some.injEq, reduceCtorEq] at h <;> subst h <;> rfl
theorem scl_vw {K : PySem.W.Frag} {H : Hp} {d : D} {v u : V} (h : scl d = some u) (r : Vw K H d v) : v = u := by
  cases d <;> simp only [scl, Option.some.injEq, reduceCtorEq] at h <;> subst h
  · exact r.non
  · exact r.bl
  · exact r.int
  · exact r.str
theorem sclL_vw {K : PySem.W.Frag} {H : Hp} : ∀ {ds : List D} {vs us : List V}, sclL ds = some us → VwL K H ds vs → vs = us ∧ us.all flatV = true
  | [], _, _, h, r => by cases h; exact ⟨r, rfl⟩
  | d :: ds, _, _, h, r => by
    obtain ⟨v, q, rfl, r1, r2⟩ := r
    unfold sclL at h
    cases e1 : scl d with
    | none => rw [e1] at h; cases h
    | some u =>
      cases e2 : sclL ds with
      | none => rw [e1, e2] at h; cases h
      | some us =>
        rw [e1, e2] at h
        cases h
        obtain ⟨h1, h2⟩ := sclL_vw e2 r2
        rw [scl_vw e1 r1, h1]
        exact ⟨rfl, by rw [List.all_cons, scl_flat e1, h2]; rfl⟩
def inO (x : Option V) (xs : Option (List V)) : Option Bool := match x, xs with
  | some v, some vs => some (inV v vs)
  | _, _ => none
def fIn : List D → Option D
  | [x, d] => match inO (scl x) ((items d).bind sclL) with
    | some b => some (.bl b)
    | none => none
  | _ => none
def fNotIn : List D → Option D
  | [x, d] => match inO (scl x) ((items d).bind sclL) with
    | some b => some (.bl (!b))
    | none => none
  | _ => none
theorem in_core {X : Cx} {H : Hp} {x y : D} {v w : V} {b : Bool} (h1 : Vw X.K H x v) (h2 : Vw X.K H y w) (e : inO (scl x) ((items y).bind sclL) = some b) : ∃ p xs, w = .ref p ∧ (SqL X.K H p xs ∨ SqT X.K H p xs) ∧ flatV v = true ∧ xs.all flatV = true ∧ inV v xs = b := by
  cases e1 : scl x with
  | none => rw [e1] at e; cases e
  | some u =>
    cases e2 : items y with
    | none => rw [e1, e2] at e; cases e
    | some ys =>
      rw [e1, e2, Option.bind_some] at e
      cases e3 : sclL ys with
      | none => rw [e3] at e; cases e
      | some us =>
        rw [e3] at e
        cases e
        obtain ⟨a, vs, rfl, hS, hv, _⟩ := h2.items e2
        obtain ⟨q1, q2⟩ := sclL_vw e3 hv
        subst q1
        have := scl_vw e1 h1
        subst this
        exact ⟨a, vs, rfl, hS, scl_flat e1, q2, rfl⟩
theorem sc_notIn {X : Cx} : Sc2 X (compareOp .NotIn) fNotIn := by
  intro H x y v w r h1 h2 e
  unfold fNotIn at e
  simp only at e
  split at e
  · rename_i b q
    cases e
    obtain ⟨p, xs, rfl, hS, f1, f2, rfl⟩ := in_core h1 h2 q
    exact ⟨_, rfl, fun Q k => ⟨_, op_notIn_seq, p, xs, rfl, hS, f1, f2, k⟩⟩
  · cases e
theorem two_fNotIn : ∀ ds r, fNotIn ds = some r → ds.length = 2 := fun ds r h => by unfold fNotIn at h; split at h <;> first | rfl | cases h
theorem sclL_ints : ∀ {ns : List Int}, sclL (ns.map D.int) = some (ns.map V.int)
  | [] => rfl
  | n :: ns => by simp only [List.map_cons, sclL, scl, sclL_ints]
theorem inV_ints {a : Int} : ∀ {ns : List Int}, inV (.int a) (ns.map V.int) = decide (a ∈ ns)
  | [] => rfl
  | n :: ns => by
    have ih := inV_ints (a := a) (ns := ns)
    unfold inV at ih ⊢
    rw [List.map_cons, List.any_cons, ih]
    have e : eqV (.int n) (.int a) = (n == a) := rfl
    rw [e]
    by_cases h : a = n
    · subst h; simp
    · have h2 : (n == a) = false := by simpa using fun z => h z.symm
      rw [h2]; simp [h]
theorem q_inL {a : Int} {o : Bool} {ns : List Int} : fIn [.int a, .lst o (ns.map D.int)] = some (.bl (decide (a ∈ ns))) := by
  show (match inO (some (V.int a)) (sclL (ns.map D.int)) with | some b => some (D.bl b) | none => none) = _
  rw [sclL_ints]
  show some (D.bl (inV (.int a) (ns.map V.int))) = _
  rw [inV_ints]
theorem q_notInL {a : Int} {o : Bool} {ns : List Int} : fNotIn [.int a, .lst o (ns.map D.int)] = some (.bl (!decide (a ∈ ns))) := by
  show (match inO (some (V.int a)) (sclL (ns.map D.int)) with | some b => some (D.bl (!b)) | none => none) = _
  rw [sclL_ints]
  show some (D.bl (!inV (.int a) (ns.map V.int))) = _
  rw [inV_ints]
def gLR (o : Option (List D)) (s : S) : Rs D := match o with
  | some [.int j] => if j.natAbs ≤ 100000 then .ok (.lst true (irange 0 j.toNat)) s else .stuck
  | some [.int i, .int j] => if i.natAbs ≤ 100000 ∧ j.natAbs ≤ 100000 ∧ (j - i).toNat ≤ 100000 then .ok (.lst true (irange i (j - i).toNat)) s else .stuck
  | _ => .stuck
def kLR (os : List Opd) (s : S) : Rs D := gLR (getL s os) s
def eLR (ms : M (List Opd)) : M D := fun st => (ms st).bind kLR
theorem q_eLR {ms : M (List Opd)} {st : S} : eLR ms st = (ms st).bind kLR := (rfl)
theorem q_kLR {os : List Opd} {s : S} : kLR os s = gLR (getL s os) s := (rfl)
theorem q_gLR1 {j : Int} {s : S} : gLR (some [.int j]) s = if j.natAbs ≤ 100000 then .ok (.lst true (irange 0 j.toNat)) s else .stuck := (rfl)
theorem q_gLR2 {i j : Int} {s : S} : gLR (some [.int i, .int j]) s = if i.natAbs ≤ 100000 ∧ j.natAbs ≤ 100000 ∧ (j - i).toNat ≤ 100000 then .ok (.lst true (irange i (j - i).toNat)) s else .stuck := (rfl)
theorem rgV_reps {K : PySem.W.Frag} {H : Hp} {ω : Om} {τ : List Nat → Own} {p : List Nat} {a b : Int} : Reps K H ω τ p 0 (irange a (b - a).toNat) (rgV a b) := by
  have e1 : irange a (b - a).toNat = ((List.range (b - a).toNat).map fun (i : Nat) => a + (i : Int)).map D.int := by unfold irange; rw [List.map_map]; rfl
  have e2 : rgV a b = ((List.range (b - a).toNat).map fun (i : Nat) => a + (i : Int)).map V.int := by unfold rgV; rw [List.map_map]; rfl
  rw [e1, e2]
  exact ints_reps
section
variable {C : Ct} {a b : Expr} {p p2 pos pos2 : Pos}
theorem se_listR1 (k : C.Ok lv) {m : M Opd} (hx : Gl C.X "list") (hm : C.X.mg "list" = none) (hy : Gl C.X "range") (hn : C.X.mg "range" = none) (ha : SO C a m)
    (na : starEach [a] C.X.env = (false, eval a C.X.env) :: starEach [] C.X.env := by rfl) (nb : starEach [.Call (.Name "range" p2) [a] [] pos2] C.X.env = (false, eval (.Call (.Name "range" p2) [a] [] pos2) C.X.env) :: starEach [] C.X.env := by rfl) :
    SE C (.Call (.Name "list" p) [.Call (.Name "range" p2) [a] [] pos2] [] pos) (eLR (aCons m aNil)) := fun st σ H ω Q s q => by
  refine ⟨_, pe_listRg k.calm hx hm (prg_1 hy hn pe_w na) nb, ?_⟩
  show WE C.X a σ H fun x H1 => ∃ n, x = .int n ∧ (RgOk 0 n ∧ ∀ q, H1 q = none → Q (.ref q) (upd H1 q (.lst (rgV 0 n))))
  refine sa_cons ha sa_nil 0 st σ H ω (fun vs H1 => match vs with | [x] => ∃ n, x = .int n ∧ (RgOk 0 n ∧ ∀ q, H1 q = none → Q (.ref q) (upd H1 q (.lst (rgV 0 n)))) | _ => False) s ?_
  unfold eLR at q
  cases e1 : aCons m aNil st with
  | stuck => rw [e1] at q; exact q
  | exc x w s1 => rw [e1] at q; exact q
  | ok os s1 =>
    rw [e1] at q
    simp only [bind_ok, kLR] at q
    intro vs H1 ω1 t1 sm1 r1
    cases e2 : getL s1 os with
    | none => rw [e2] at q; exact q.elim
    | some ds =>
      rw [e2] at q
      have hv := r1.vws sm1 e2
      have len1 : os.length = 1 := by
        unfold aCons at e1
        cases e3 : m st with
        | stuck => rw [e3] at e1; cases e1
        | exc x w s2 => rw [e3] at e1; cases e1
        | ok o s2 => rw [e3] at e1; simp only [bind_ok, aNil] at e1; cases e1; rfl
      have lends : ds.length = 1 := by
        have : ∀ (os : List Opd) (ds : List D), getL s1 os = some ds → ds.length = os.length := by
          intro os
          induction os with
          | nil => intro ds h; cases h; rfl
          | cons o os ih =>
            intro ds h
            unfold getL at h
            split at h
            · rename_i h2; cases h; rw [List.length_cons, List.length_cons, ih _ h2]
            · cases h
        rw [this os ds e2, len1]
      match ds, lends, q, hv with
      | [.int j], _, q, hv =>
        simp only [gLR] at q
        obtain ⟨v, _, rfl, h1, rfl⟩ := hv
        by_cases hz : j.natAbs ≤ 100000
        · rw [if_pos hz] at q
          refine ⟨j, h1.int, ⟨by omega, by omega, by omega, by omega, by omega⟩, fun pa hp => ?_⟩
          refine q _ _ _ (t1.newN hp) (sm1.newN hp) (.lst upd_same ownN_same ?_)
          have := rgV_reps (K := C.X.K) (H := upd H1 pa (.lst (rgV 0 j))) (ω := ownN ω1 pa) (τ := .res) (p := []) (a := 0) (b := j)
          rw [Int.sub_zero] at this
          exact this
        · rw [if_neg hz] at q; exact q.elim
      | [.non], _, q, _ => exact q.elim
      | [.bl _], _, q, _ => exact q.elim
      | [.str _], _, q, _ => exact q.elim
      | [.fn _], _, q, _ => exact q.elim
      | [.ty _], _, q, _ => exact q.elim
      | [.tup _], _, q, _ => exact q.elim
      | [.lst _ _], _, q, _ => exact q.elim
      | [.ro _], _, q, _ => exact q.elim
      | [.dct _ _ _], _, q, _ => exact q.elim
      | [.dz _ _ _], _, q, _ => exact q.elim
      | [.ins _ _ _ _], _, q, _ => exact q.elim
      | [.xc _ _], _, q, _ => exact q.elim
end
end SV

namespace SV
open PySem PySem.Spec PyProof.Rows L2
def VL (K : PySem.W.Frag) (H : Hp) : V → List Nat → V → Prop
  | v, [], u => u = v
  | v, k :: π, u => ∃ a vs w, v = .ref a ∧ (H a = some (.lst vs) ∨ TupAt K H a vs) ∧ vs[k]? = some w ∧ VL K H w π u
def lstP : D → List Nat → Bool
  | _, [] => true
  | .lst _ xs, k :: π => match xs[k]? with
    | some c => lstP c π
    | none => false
  | .tup xs, k :: π => match xs[k]? with
    | some c => lstP c π
    | none => false
  | _, _ :: _ => false
theorem Rep.placeL {K : PySem.W.Frag} {H : Hp} {ω : Om} {τ : List Nat → Own} : ∀ {π p : List Nat} {d e : D} {v : V}, Rep K H ω τ p d v → getP d π = some e → lstP d π = true → ∃ u, Rep K H ω τ (p ++ π) e u ∧ VL K H v π u ∧ ∀ e' H' ω', Ch H ω τ (p ++ π) H' ω' → Rep K H' ω' τ (p ++ π) e' u → Rep K H' ω' τ p (setP d π e') v
  | [], p, d, e, v, r, h, _ => by
    cases h
    rw [List.append_nil]
    exact ⟨v, r, rfl, fun e' H' ω' _ r' => r'⟩
  | k :: π, p, d, e, v, r, h, hl => by
    have epp : p ++ (k :: π) = p ++ [k] ++ π := by simp
    cases d with
    | lst o xs =>
      unfold getP at h
      unfold lstP at hl
      cases q : xs[k]? with
      | none =>
        have q' : (kids (.lst o xs))[k]? = none := q
        rw [q'] at h; cases h
      | some c =>
        have q' : (kids (.lst o xs))[k]? = some c := q
        rw [q'] at h
        rw [q] at hl
        simp only at h hl
        have hk : k < xs.length := (List.getElem?_eq_some_iff.mp q).1
        cases r with
        | lst h1 h2 rr =>
          obtain ⟨w, hw, rw'⟩ := rr.nth q
          rw [Nat.zero_add] at rw'
          obtain ⟨u, r1, va, back⟩ := Rep.placeL (π := π) rw' h hl
          rw [epp]
          refine ⟨u, r1, ⟨_, _, w, rfl, .inl h1, hw, va⟩, fun e' H' ω' ch r' => ?_⟩
          have rx := rr.offX ch (k := k) (by rw [Nat.zero_add]; exact List.prefix_append _ _) hk
          have e1 : setP (.lst o xs) (k :: π) e' = .lst o (xs.set k (setP c π e')) := by
            conv => lhs; unfold setP
            rw [q']
            rfl
          rw [e1]
          obtain ⟨z1, z2⟩ := ch.lstAt off_self h1 h2
          exact .lst z1 z2 (rx.set hw (by rw [Nat.zero_add]; exact back e' H' ω' ch r'))
    | tup xs =>
      unfold getP at h
      unfold lstP at hl
      cases q : xs[k]? with
      | none =>
        have q' : (kids (.tup xs))[k]? = none := q
        rw [q'] at h; cases h
      | some c =>
        have q' : (kids (.tup xs))[k]? = some c := q
        rw [q'] at h
        rw [q] at hl
        simp only at h hl
        have hk : k < xs.length := (List.getElem?_eq_some_iff.mp q).1
        cases r with
        | tup h1 rr =>
          obtain ⟨w, hw, rw'⟩ := rr.nth q
          rw [Nat.zero_add] at rw'
          obtain ⟨u, r1, va, back⟩ := Rep.placeL (π := π) rw' h hl
          rw [epp]
          refine ⟨u, r1, ⟨_, _, w, rfl, .inr h1, hw, va⟩, fun e' H' ω' ch r' => ?_⟩
          have rx := rr.offX ch (k := k) (by rw [Nat.zero_add]; exact List.prefix_append _ _) hk
          have e1 : setP (.tup xs) (k :: π) e' = .tup (xs.set k (setP c π e')) := by
            conv => lhs; unfold setP
            rw [q']
            rfl
          rw [e1]
          refine .tup ?_ (rx.set hw (by rw [Nat.zero_add]; exact back e' H' ω' ch r'))
          rcases h1 with h1 | h1
          · exact .inl (ch.tup _ _ h1)
          · exact .inr h1
    | _ => simp [lstP] at hl
section
variable {K : PySem.W.Frag} {R : Nat → Bool} {σ0 σ : L2.St} {st : S} {H : Hp} {ω : Om}
theorem Sim.changeL {i n : Nat} {π : List Nat} {d : D} {xs : List D} (s : Sim K R σ0 st σ H ω) (h : st[i]? = some (some d)) (hp : getP d π = some (.lst true xs)) (hl : lstP d π = true) :
    ∃ v a vs, σ[i]? = some (some v) ∧ VL K H v π (.ref a) ∧ H a = some (.lst vs) ∧ xs.length = vs.length ∧ Reps K H ω (.sl i) π 0 xs vs ∧
      (∀ vs', Reps K (upd H a (.lst vs')) (plw i (π ++ [n]) ω) (.sl i) π 0 xs vs) ∧
      (∀ vs' dd u, Rep K H ω .res [] dd u → Rep K (upd H a (.lst vs')) (plw i (π ++ [n]) ω) (.sl i) (π ++ [n]) dd u) ∧
      ∀ xs' vs', Reps K (upd H a (.lst vs')) (plw i (π ++ [n]) ω) (.sl i) π 0 xs' vs' → Sim K R σ0 (st.set i (some (setP d π (.lst true xs')))) σ (upd H a (.lst vs')) (plw i (π ++ [n]) ω) ∧ Tr H ω (upd H a (.lst vs')) (plw i (π ++ [n]) ω) := by
  obtain ⟨v, ev, r⟩ := s.at_ i d h
  obtain ⟨u, r1, va, back⟩ := Rep.placeL r hp hl
  rw [List.nil_append] at r1 back
  cases r1 with
  | lst h1 h2 h3 =>
    rename_i a vs
    have h2 : ω a = some (.sl i π) := h2
    have tup : ∀ vs', TT0 H (upd H a (.lst vs')) := fun vs' b ws hb => by
      have : b ≠ a := fun z => by rw [z, h1] at hb; cases hb
      rw [upd_ne this]
      exact hb
    have nn : ∀ {b : Addr} {x : Option Own}, ω b = x → x ≠ some (.sl i π) → b ≠ a := fun {b x} e hx z => hx (by rw [← e, z]; exact h2)
    have hnone : ∀ vs' b u, H b = some u → ω b = none → upd H a (.lst vs') b = some u ∧ plw i (π ++ [n]) ω b = none := fun vs' b u hb e =>
      ⟨by rw [upd_ne (nn e (fun z => nomatch z))]; exact hb, plw_none e⟩
    have ch : ∀ vs', Ch H ω (.sl i) π (upd H a (.lst vs')) (plw i (π ++ [n]) ω) := fun vs' => ⟨tup vs', fun b u q hq hb e => ⟨by
        rw [upd_ne (nn e (fun z => by cases z; exact hq rfl))]; exact hb, plw_sl e⟩, hnone vs'⟩
    refine ⟨v, a, vs, ev, va, h1, rep_len h3, h3, fun vs' => ?_, fun vs' dd u rr => ?_, fun xs' vs' rr => ⟨⟨by simp [s.len], fun j dd hj => ?_, s.ref_⟩, ⟨tup vs', fun b u hb e => ?_, fun b hb => ?_⟩⟩⟩
    · exact h3.off (ch vs') fun k _ z => by
        have := List.IsPrefix.length_le z
        simp at this
        omega
    · have := rr.mv (g := fun q => (π ++ [n]) ++ q) (H' := upd H a (.lst vs')) (ω' := plw i (π ++ [n]) ω) (τ' := Own.sl i) ⟨fun p k => by simp, tup vs', fun b u q hb e => ⟨by rw [upd_ne (nn e (fun z => nomatch z))]; exact hb, by unfold plw; rw [e]⟩, hnone vs'⟩
      rw [List.append_nil] at this
      exact this
    · by_cases e : i = j
      · subst e
        have hi : i < st.length := (List.getElem?_eq_some_iff.mp h).1
        rw [List.getElem?_set_self hi] at hj
        cases hj
        exact ⟨v, ev, back _ _ _ (ch vs') (.lst upd_same (plw_sl h2) rr)⟩
      · rw [List.getElem?_set_ne e] at hj
        obtain ⟨v', e', r'⟩ := s.at_ j dd hj
        refine ⟨v', e', r'.mv (g := id) ⟨fun _ _ => rfl, tup vs', fun b u q hb e2 => ⟨by rw [upd_ne (nn e2 (fun z => by cases z; exact e rfl))]; exact hb, plw_sl e2⟩, hnone vs'⟩⟩
    · have hb' : b ≠ a := nn (x := ω b) rfl (fun z => by rcases e with e | e <;> (rw [e] at z; cases z))
      refine ⟨by rw [upd_ne hb']; exact hb, ?_⟩
      rcases e with e | e
      · rw [plw_none e, e]
      · rw [plw_oth e, e]
    · by_cases z : b = a
      · rw [z, upd_same]; exact fun z => nomatch z
      · rw [upd_ne z]; exact hb
end
def PthE (C : Ct) (e : Expr) (i : Nat) (π : List Nat) : Prop := ∀ σ H v u Q, σ[i]? = some (some v) → VL C.X.K H v π u → Q u H → WE C.X e σ H Q
theorem VL.snoc {K : PySem.W.Frag} {H : Hp} {k : Nat} : ∀ {π : List Nat} {v u : V}, VL K H v (π ++ [k]) u → ∃ a vs, VL K H v π (.ref a) ∧ (H a = some (.lst vs) ∨ TupAt K H a vs) ∧ vs[k]? = some u
  | [], v, u, h => by
    obtain ⟨a, vs, w, rfl, h1, h2, h3⟩ := h
    cases h3
    exact ⟨a, vs, rfl, h1, h2⟩
  | j :: π, v, u, h => by
    obtain ⟨a, vs, w, rfl, h1, h2, h3⟩ := h
    obtain ⟨b, us, g1, g2, g3⟩ := VL.snoc h3
    exact ⟨b, us, ⟨a, vs, w, rfl, h1, h2, g1⟩, g2, g3⟩
section
variable {C : Ct} {e a : Expr} {es : List Expr} {x name : Str} {pos p2 apos cpos : Pos} {i : Nat} {π : List Nat}
theorem pth_n (hN : C.X.N[i]? = some x := by rfl) (hv : Vis C.X.env.scope x := by first | exact Or.inl rfl | exact Or.inr (Or.inl rfl) | exact Or.inr (Or.inr rfl)) (hd : (x == ("__debug__" : Str)) = false := by decide) (hcd : (x == ("__classdict__" : Str)) = false := by decide) : PthE C (.Name x pos) i [] :=
  fun σ H v u Q e hv' q => by
    cases hv'
    exact ⟨_, pe_var hN hv hd hcd, _, e, q⟩
theorem pth_ix {k : Nat} {j} (h : PthE C e i π) : PthE C (.Subscript e (.Constant (.int (k : Int)) j p2) pos) i (π ++ [k]) := fun σ H v u Q ev hv q => by
  obtain ⟨a, vs, g1, g2, g3⟩ := hv.snoc
  refine ⟨_, pe_ix ix_w pe_w pe_int (fun _ _ => rfl), ?_⟩
  refine h σ H v (.ref a) _ ev g1 ?_
  rcases g2 with g2 | g2
  · exact ⟨_, ix_list, a, vs, (k : Int), u, rfl, rfl, .of g2, by rw [atI_pos]; exact g3, q⟩
  · exact ⟨_, ix_tup, a, vs, (k : Int), u, rfl, rfl, g2.sq, by rw [atI_pos]; exact g3, q⟩
def mp0R (i : Nat) (d : D) (π : List Nat) (o : Option (List D × D)) (s : S) : Rs D := match o with
  | some (ys, r) => .ok r (s.set i (some (setP d π (.lst true ys))))
  | none => .stuck
def mp0P (i : Nat) (π : List Nat) (f : List D → Option (List D × D)) (d : D) (o : Option D) (s : S) : Rs D := match o with
  | some (.lst true xs) => if lstP d π = true then mp0R i d π (f xs) s else .stuck
  | _ => .stuck
def kMp0 (i : Nat) (π : List Nat) (f : List D → Option (List D × D)) (o : Option (Option D)) (s : S) : Rs D := match o with
  | some (some d) => mp0P i π f d (getP d π) s
  | _ => .stuck
def eMp0 (i : Nat) (π : List Nat) (f : List D → Option (List D × D)) : M D := fun st => kMp0 i π f (st[i]?) st
theorem se_mp0 {id : String} {f : List D → Option (List D × D)} (hf : ∀ (H : Hp) (ω : Om) (xs ys : List D) (r : D), f xs = some (ys, r) → ∀ (a : Addr) (vs : List V), H a = some (.lst vs) →
      (∀ vs', Reps C.X.K (upd H a (.lst vs')) ω (.sl i) π 0 xs vs) → ∃ vs' u, Reps C.X.K (upd H a (.lst vs')) ω (.sl i) π 0 ys vs' ∧ Rep C.X.K (upd H a (.lst vs')) ω .res [] r u ∧ ∀ Q : VK, Q u (upd H a (.lst vs')) → ∃ t, MtR C.X id t ∧ t (.ref a) [] H Q)
    (slot : Slot "list" name id) (hty : typeOf (.builtin id) = pure (.type "method_descriptor")) (ha : PthE C a i π)
    (hbase : attributeBase a name C.X.env (eval a C.X.env) = eval a C.X.env := by rfl) (hline : (apos.endLine == cpos.line) = true := by rfl) :
    SE C (.Call (.Attribute a name apos) [] [] cpos) (eMp0 i π f) := fun st σ H ω Q s p => by
  refine ⟨_, pe_bm0 PySem.F.plainAttrs_list slot hty mt_w pe_w hbase hline, ?_⟩
  unfold eMp0 at p
  cases q0 : st[i]? with
  | none => rw [q0] at p; exact p.elim
  | some o =>
  cases o with
  | none => rw [q0] at p; exact p.elim
  | some d =>
  rw [q0] at p
  simp only [kMp0] at p
  cases q1 : getP d π with
  | none => rw [q1] at p; exact p.elim
  | some e' =>
  rw [q1] at p
  cases e' with
  | lst o xs =>
    cases o with
    | false => exact p.elim
    | true =>
    simp only [mp0P] at p
    by_cases hl : lstP d π = true
    · rw [if_pos hl] at p
      cases q2 : f xs with
      | none => rw [q2] at p; exact p.elim
      | some yr =>
        obtain ⟨ys, r⟩ := yr
        rw [q2] at p
        simp only [mp0R] at p
        obtain ⟨v, a', vs, ev, va, hH, _, rr, c1, c2, c3⟩ := s.changeL (n := 0) q0 q1 hl
        refine ha σ H v (.ref a') _ ev va ⟨tyV_lst hH, ?_⟩
        obtain ⟨vs', u, r1, r2, t⟩ := hf H (plw i (π ++ [0]) ω) xs ys r q2 a' vs hH c1
        refine t Q ?_
        obtain ⟨sm, tr⟩ := c3 ys vs' r1
        exact p u _ _ tr sm r2
    · rw [if_neg hl] at p; exact p.elim
  | _ => exact p.elim
def mp1R (i : Nat) (d : D) (π : List Nat) (o : Option (List D)) (s : S) : Rs D := match o with
  | some ys => .ok .non (s.set i (some (setP d π (.lst true ys))))
  | none => .stuck
def mp1P (i : Nat) (π : List Nat) (f : List D → D → Option (List D)) (x d : D) (o : Option D) (s : S) : Rs D := match o with
  | some (.lst true xs) => if lstP d π = true then mp1R i d π (f xs x) s else .stuck
  | _ => .stuck
def mp1O (i : Nat) (π : List Nat) (f : List D → D → Option (List D)) (x : D) (o : Option (Option D)) (s : S) : Rs D := match o with
  | some (some d) => mp1P i π f x d (getP d π) s
  | _ => .stuck
end
def MP0 (X : Cx) (id : String) (f : List D → Option (List D × D)) : Prop := ∀ (H : Hp) (ω : Om) (i : Nat) (π : List Nat) (xs ys : List D) (r : D), f xs = some (ys, r) → ∀ (a : Addr) (vs : List V), H a = some (.lst vs) →
      (∀ vs', Reps X.K (upd H a (.lst vs')) ω (.sl i) π 0 xs vs) → ∃ vs' u, Reps X.K (upd H a (.lst vs')) ω (.sl i) π 0 ys vs' ∧ Rep X.K (upd H a (.lst vs')) ω .res [] r u ∧ ∀ Q : VK, Q u (upd H a (.lst vs')) → ∃ t, MtR X id t ∧ t (.ref a) [] H Q
def MP1 (X : Cx) (id : String) (n : List D → Nat) (f : List D → D → Option (List D)) : Prop := ∀ (H : Hp) (ω : Om) (i : Nat) (π : List Nat) (xs ys : List D) (d : D) (w : V), f xs d = some ys → ∀ (a : Addr) (vs : List V), H a = some (.lst vs) →
  (∀ vs', Reps X.K (upd H a (.lst vs')) ω (.sl i) π 0 xs vs) → (∀ vs', Rep X.K (upd H a (.lst vs')) ω (.sl i) (π ++ [n xs]) d w) → ∃ vs', Reps X.K (upd H a (.lst vs')) ω (.sl i) π 0 ys vs' ∧ ∀ Q : VK, Q .non (upd H a (.lst vs')) → ∃ t, MtR X id t ∧ t (.ref a) [w] H Q
theorem mp1_append {X : Cx} : MP1 X "list.append" List.length fApp := by
  intro H ω i π xs ys d w e a vs hH rr rw'
  unfold fApp at e
  split at e
  · rename_i hz
    cases e
    have hl := rep_len (rr vs)
    refine ⟨vs ++ [w], (rr _).snoc (by rw [Nat.zero_add]; exact rw' _), fun Q k => ⟨_, mt_append, a, vs, w, rfl, rfl, hH, ?_, k⟩⟩
    rw [← hl]
    exact Nat.lt_of_lt_of_le (Nat.lt_of_lt_of_le hz (Nat.le_refl _)) (by decide)
  · cases e
theorem q_eMp0 {i : Nat} {π : List Nat} {f : List D → Option (List D × D)} {st : S} : eMp0 i π f st = kMp0 i π f (st[i]?) st := (rfl)
theorem q_kMp0 {i : Nat} {π : List Nat} {f : List D → Option (List D × D)} {d : D} {s : S} : kMp0 i π f (some (some d)) s = mp0P i π f d (getP d π) s := (rfl)
theorem q_mp0P {i : Nat} {π : List Nat} {f : List D → Option (List D × D)} {d : D} {xs : List D} {s : S} : mp0P i π f d (some (.lst true xs)) s = if lstP d π = true then mp0R i d π (f xs) s else .stuck := (rfl)
theorem q_mp0R {i : Nat} {π : List Nat} {d r : D} {ys : List D} {s : S} : mp0R i d π (some (ys, r)) s = .ok r (s.set i (some (setP d π (.lst true ys)))) := (rfl)
def getPk (o : Option D) (π : List Nat) : Option D := match o with
  | some c => getP c π
  | none => none
theorem q_getP0 {d : D} : getP d [] = some d := by unfold getP; rfl
theorem q_getP1 {o : Bool} {xs : List D} {k : Nat} {π : List Nat} : getP (.lst o xs) (k :: π) = getPk (xs[k]?) π := by
  conv => lhs; unfold getP
  show (match xs[k]? with | some c => getP c π | none => none) = _
  unfold getPk
  rfl
theorem q_getPk {c : D} {π : List Nat} : getPk (some c) π = getP c π := (rfl)
def lstPk (o : Option D) (π : List Nat) : Bool := match o with
  | some c => lstP c π
  | none => false
theorem q_lstP0 {d : D} : lstP d [] = true := by unfold lstP; rfl
theorem q_lstP1 {o : Bool} {xs : List D} {k : Nat} {π : List Nat} : lstP (.lst o xs) (k :: π) = lstPk (xs[k]?) π := by
  conv => lhs; unfold lstP
  unfold lstPk
  rfl
theorem q_lstPk {c : D} {π : List Nat} : lstPk (some c) π = lstP c π := (rfl)
def setPk (o : Bool) (xs : List D) (k : Nat) (x : Option D) (π : List Nat) (e : D) : D := match x with
  | some c => .lst o (xs.set k (setP c π e))
  | none => .lst o xs
theorem q_setP0 {d e : D} : setP d [] e = e := by unfold setP; rfl
theorem q_setP1 {o : Bool} {xs : List D} {k : Nat} {π : List Nat} {e : D} : setP (.lst o xs) (k :: π) e = setPk o xs k (xs[k]?) π e := by
  conv => lhs; unfold setP
  show (match xs[k]? with | some c => withKids (.lst o xs) (xs.set k (setP c π e)) | none => .lst o xs) = _
  unfold setPk
  cases xs[k]? <;> rfl
theorem q_setPk {o : Bool} {xs : List D} {k : Nat} {c e : D} {π : List Nat} : setPk o xs k (some c) π e = .lst o (xs.set k (setP c π e)) := (rfl)
theorem q_getPT {xs : List D} {k : Nat} {π : List Nat} : getP (.tup xs) (k :: π) = getPk (xs[k]?) π := by
  conv => lhs; unfold getP
  show (match xs[k]? with | some c => getP c π | none => none) = _
  unfold getPk
  rfl
theorem q_lstPT {xs : List D} {k : Nat} {π : List Nat} : lstP (.tup xs) (k :: π) = lstPk (xs[k]?) π := by
  conv => lhs; unfold lstP
  unfold lstPk
  rfl
def setPkT (xs : List D) (k : Nat) (x : Option D) (π : List Nat) (e : D) : D := match x with
  | some c => .tup (xs.set k (setP c π e))
  | none => .tup xs
theorem q_setPT {xs : List D} {k : Nat} {π : List Nat} {e : D} : setP (.tup xs) (k :: π) e = setPkT xs k (xs[k]?) π e := by
  conv => lhs; unfold setP
  show (match xs[k]? with | some c => withKids (.tup xs) (xs.set k (setP c π e)) | none => .tup xs) = _
  unfold setPkT
  cases xs[k]? <;> rfl
theorem q_setPkT {xs : List D} {k : Nat} {c e : D} {π : List Nat} : setPkT xs k (some c) π e = .tup (xs.set k (setP c π e)) := (rfl)
end SV

namespace SV
open PySem PySem.Spec PyProof.Rows L2
def addNew (l : List Int) (c : Int) : List Int := if c ∈ l then l else l ++ [c]
def firsts (ns : List Int) : List Int := ns.foldl addNew []
def dkR (o : Option (List Int)) (s : S) : Rs (List D) := match o with
  | some ns => .ok ((firsts ns).map .int) s
  | none => .stuck
def kDkE (ds : List D) (s : S) : Rs (List D) := dkR (intsD ds) s
def kDk (vs : List Nat) (g : D → S → Option S) (t : M Bool) (m : M D) (ys : List D) (s : S) : Rs (List D) := if ys.length ≤ 4000 then (lcL vs g t m ys (wipeS s vs)).bind kDkE else .stuck
def eDk (vs : List Nat) (g : D → S → Option S) (i : M (List D)) (t : M Bool) (m : M D) : M (List D) := fun st => (i st).bind (kDk vs g t m)
theorem q_eDk {vs : List Nat} {g : D → S → Option S} {i : M (List D)} {t : M Bool} {m : M D} {st : S} : eDk vs g i t m st = (i st).bind (kDk vs g t m) := (rfl)
theorem q_kDk {vs : List Nat} {g : D → S → Option S} {t : M Bool} {m : M D} {ys : List D} {s : S} : kDk vs g t m ys s = if ys.length ≤ 4000 then (lcL vs g t m ys (wipeS s vs)).bind kDkE else .stuck := (rfl)
theorem q_kDkE {ds : List D} {s : S} : kDkE ds s = dkR (intsD ds) s := (rfl)
theorem q_dkR {ns : List Int} {s : S} : dkR (some ns) s = .ok ((firsts ns).map .int) s := (rfl)
theorem dk_tup {kvs : List (Key × V)} (vs : List V) : HO.dK kvs ≠ .tup vs := fun z => nomatch z
def lkO (ω : Om) (p : Addr) : Om := fun a => if a = p then none else ω a
theorem lkO_ne {ω : Om} {p a : Addr} (h : a ≠ p) : lkO ω p a = ω a := by unfold lkO; rw [if_neg h]
section
variable {K : PySem.W.Frag} {R : Nat → Bool} {σ0 σ : L2.St} {st : S} {H H1 H2 : Hp} {ω ω1 ω2 : Om} {p : Addr} {o u : HO}
theorem Tr.lkN (t : Tr H ω H1 ω1) (hp : H p = none) : Tr H ω (upd H1 p o) (lkO ω1 p) := by
  refine ⟨fun a vs h => ?_, fun a u' h e => ?_, fun a h => ?_⟩
  · have : a ≠ p := fun z => by rw [z, hp] at h; cases h
    rw [upd_ne this]; exact t.tup a vs h
  · have : a ≠ p := fun z => by rw [z, hp] at h; cases h
    obtain ⟨h1, e1⟩ := t.keep a u' h e
    exact ⟨by rw [upd_ne this]; exact h1, (lkO_ne this).trans e1⟩
  · by_cases z : a = p
    · rw [z, upd_same]; exact fun z => nomatch z
    · rw [upd_ne z]; exact t.dom a h
theorem Sim.lkN (s : Sim K R σ0 st σ H ω) (hp : H p = some u) (hu : ∀ vs, u ≠ .tup vs) (hw : ω p = some .oth) : Sim K R σ0 st σ (upd H p o) (lkO ω p) := by
  have ne : ∀ {a : Addr} {x : Option Own}, ω a = x → x ≠ some .oth → a ≠ p := fun {a x} e hx z => by
    subst z; rw [hw] at e; exact hx e.symm
  exact s.mv (fun a vs h => by
    have : a ≠ p := fun z => by rw [z, hp] at h; cases h; exact hu vs rfl
    rw [upd_ne this]; exact h) (fun a u i q h e => ⟨by rw [upd_ne (ne e (fun z => nomatch z))]; exact h, (lkO_ne (ne e (fun z => nomatch z))).trans e⟩) fun a u h e => ⟨by rw [upd_ne (ne e (fun z => nomatch z))]; exact h, (lkO_ne (ne e (fun z => nomatch z))).trans e⟩
end
section
variable {C : Ct} {elt tg iter e : Expr} {ifs : List Expr} {scope : Scope} {own : List (Str × Nat)} {pos : Pos} {H H1 H2 : Hp} {ω ω1 ω2 : Om} {σ : L2.St}
end
end SV

namespace SV
open PySem PySem.Spec PyProof.Rows L2
def intAt (o : Option (Option D)) (k : Int) : Option Int := match o with
  | some (some (.lst true xs)) => (match atI xs k with
    | some (.int z) => some z
    | _ => none)
  | _ => none
def kAug5 (i : Nat) (k : Int) (o : Option D) (s : S) : Rs Fl := match o with
  | some r => setR (setIx s i (.int k) r)
  | none => .stuck
def kAug4 (i : Nat) (f : List D → Option D) (k z : Int) (d : D) (s : S) : Rs Fl := kAug5 i k (f [.int z, d]) s
def kAug3 (i : Nat) (f : List D → Option D) (m : M D) (k : Int) (o : Option Int) (s : S) : Rs Fl := match o with
  | some z => (m s).bind (kAug4 i f k z)
  | none => .stuck
def kAug2 (i : Nat) (f : List D → Option D) (m : M D) (o : Option D) (s : S) : Rs Fl := match o with
  | some (.int k) => kAug3 i f m k (intAt s[i]? k) s
  | _ => .stuck
def kAug1 (i : Nat) (f : List D → Option D) (m : M D) (o : Opd) (s : S) : Rs Fl := kAug2 i f m (getO s o) s
def kAugS (i : Nat) (mk : M Opd) (f : List D → Option D) (m : M D) (o : Option (Option D)) (s : S) : Rs Fl := match o with
  | some (some _) => (mk s).bind (kAug1 i f m)
  | _ => .stuck
def sAugS (i : Nat) (mk : M Opd) (f : List D → Option D) (m : M D) : M Fl := fun st => kAugS i mk f m st[i]? st
section
variable {st s : S} {i : Nat} {mk : M Opd} {m : M D} {f : List D → Option D} {k z : Int} {d : D} {o : Opd} {xs : List D}
theorem q_sAugS : sAugS i mk f m st = kAugS i mk f m st[i]? st := (rfl)
theorem q_kAugS : kAugS i mk f m (some (some d)) s = (mk s).bind (kAug1 i f m) := (rfl)
theorem q_kAug1 : kAug1 i f m o s = kAug2 i f m (getO s o) s := (rfl)
theorem q_kAug2 : kAug2 i f m (some (.int k)) s = kAug3 i f m k (intAt s[i]? k) s := (rfl)
def intD (o : Option D) : Option Int := match o with
  | some (.int z) => some z
  | _ => none
theorem q_intAt : intAt (some (some (.lst true xs))) k = intD (atI xs k) := (rfl)
theorem q_intD : intD (some (.int z)) = some z := (rfl)
theorem q_kAug3 : kAug3 i f m k (some z) s = (m s).bind (kAug4 i f k z) := (rfl)
theorem q_kAug4 : kAug4 i f k z d s = kAug5 i k (f [.int z, d]) s := (rfl)
theorem q_kAug5 : kAug5 i k (some d) s = setR (setIx s i (.int k) d) := (rfl)
end
section
variable {C : Ct} {b e : Expr} {x : Str} {pos : Pos}
end
def gRev (ds : List D) : Option D := match ds with
  | [.lst _ xs, .int i] => if frzdL xs = true ∧ i = -1 then some (.lst true xs.reverse) else none
  | [.ro xs, .int i] => if frzdL xs = true ∧ i = -1 then some (.lst true xs.reverse) else none
  | _ => none
theorem q_gRevL {o : Bool} {xs : List D} (h : frzdL xs = true) : gRev [.lst o xs, .int (-1)] = some (.lst true xs.reverse) := by show (if _ then _ else _) = _; rw [if_pos ⟨h, rfl⟩]
theorem q_gRevR {xs : List D} (h : frzdL xs = true) : gRev [.ro xs, .int (-1)] = some (.lst true xs.reverse) := by show (if _ then _ else _) = _; rw [if_pos ⟨h, rfl⟩]
section
variable {C : Ct} {a st' : Expr} {p2 pos : Pos}
end
end SV

namespace SV
open PySem PySem.Spec PyProof.Rows L2
section
variable {C : Ct} {a b : Expr} {p p2 pos pos2 : Pos}
end
section
variable {C : Ct} {x : Str} {e : Expr}
def eM2 (i : Nat) (f : List D → D → Option (List D × D)) (m : M D) : M D := fun st => match st[i]? with
  | some (some (.lst true _)) => (m st).bind fun d s => (match s[i]? with
    | some (some (.lst true xs)) => (match f xs d with
      | some (ys, r) => .ok r (s.set i (some (.lst true ys)))
      | none => .stuck)
    | _ => .stuck)
  | _ => .stuck
def M2R (X : Cx) (id : String) (f : List D → D → Option (List D × D)) : Prop := ∀ (H : Hp) (ω : Om) (i : Nat) (xs ys : List D) (d r : D) (w : V), f xs d = some (ys, r) → ∀ (a : Addr) (vs : List V), H a = some (.lst vs) →
  (∀ vs', Reps X.K (upd H a (.lst vs')) ω (.sl i) [] 0 xs vs) → Vw X.K H d w → ∃ vs' u, Reps X.K (upd H a (.lst vs')) ω (.sl i) [] 0 ys vs' ∧ Rep X.K (upd H a (.lst vs')) ω .res [] r u ∧ ∀ Q : VK, Q u (upd H a (.lst vs')) → ∃ t, MtR X id t ∧ t (.ref a) [w] H Q
theorem se_m2r {id : String} {name : Str} {i : Nat} {f : List D → D → Option (List D × D)} {m : M D} {pos' apos cpos : Pos} (hf : M2R C.X id f) (slot : Slot "list" name id) (hty : typeOf (.builtin id) = pure (.type "method_descriptor")) (hm : SE C e m) (hN : C.X.N[i]? = some x := by rfl) (hv : Vis C.X.env.scope x := by first | exact Or.inl rfl | exact Or.inr (Or.inl rfl) | exact Or.inr (Or.inr rfl)) (hd : (x == ("__debug__" : Str)) = false := by decide)
    (hcd : (x == ("__classdict__" : Str)) = false := by decide) (hbase : attributeBase (.Name x pos') name C.X.env (eval (.Name x pos') C.X.env) = eval (.Name x pos') C.X.env := by rfl)
    (hfew : ((backTo cpos (starEach [e] C.X.env)).all (fun x => !x.1) && (backToKw cpos (keywordEach [] C.X.env)).all (fun x => x.1.isSome)
      && decide ([e].length + ([] : List Keyword).length + (if ([] : List Keyword).isEmpty then 0 else 1) < 30)) = true := by rfl)
    (hline : (apos.endLine == cpos.line) = true := by rfl) (hst : starEach [e] C.X.env = [(false, eval e C.X.env)] := by rfl) :
    SE C (.Call (.Attribute (.Name x pos') name apos) [e] [] cpos) (eM2 i f m) := fun st σ H ω Q s p => by
  refine ⟨_, pe_bm PySem.F.plainAttrs_list slot hty mt_w (pe_var hN hv hd hcd) (pa_wl ⟨hst, trivial⟩) hbase hfew hline hst rfl, ?_⟩
  unfold eM2 at p
  split at p
  · rename_i xs0 q0
    obtain ⟨v0, e0, r0⟩ := s.at_ i _ q0
    cases r0 with
    | lst h0 _ _ =>
      refine ⟨_, e0, tyV_lst h0, ?_⟩
      show WE C.X e σ H _
      refine hm.then s p (fun _ _ _ p => p) (fun p => p) fun d s1 p v H1 ω1 t1 sm1 r1 => ?_
      split at p
      · rename_i xs q
        split at p
        · rename_i ys r z
          obtain ⟨v', a, vs, ev, va, hH, hl, rr, c1, c2, c3⟩ := sm1.change (n := 0) (π := []) q rfl
          cases va
          rw [e0] at ev
          cases ev
          obtain ⟨vs', u, k1, k2, k3⟩ := hf H1 (plw i ([] ++ [0]) ω1) i xs ys d r v z _ vs hH c1 ⟨_, _, _, r1⟩
          refine k3 Q ?_
          obtain ⟨sm, tr⟩ := c3 ys vs' k1
          exact p u _ _ (t1.trans tr) sm k2
        · exact p.elim
      · exact p.elim
  · exact p.elim
def popO (xs : List D) (o : Option Nat) : Option (List D × D) := match o with
  | some j => (match xs[j]? with
    | some r => some (xs.eraseIdx j, r)
    | none => none)
  | none => none
def fPopAt (xs : List D) (d : D) : Option (List D × D) := match d with
  | .int k => if frzdL xs = true ∧ k.natAbs < 1000000 then popO xs (ixN xs.length k) else none
  | _ => none
theorem frzdL_mem {xs : List D} (h : frzdL xs = true) : ∀ {j : Nat} {d : D}, xs[j]? = some d → frzd d = true := by
  induction xs with
  | nil => intro j d e; simp at e
  | cons x xs ih =>
    intro j d e
    simp only [frzdL, Bool.and_eq_true] at h
    cases j with
    | zero => simp at e; exact e ▸ h.1
    | succ j => simp at e; exact ih h.2 e
theorem Reps.erase {K : PySem.W.Frag} {H : Hp} {ω : Om} {τ : List Nat → Own} {p : List Nat} : ∀ {ds : List D} {vs : List V} {k n : Nat}, frzdL ds = true → Reps K H ω τ p k ds vs → Reps K H ω τ p k (ds.eraseIdx n) (vs.eraseIdx n)
  | [], _, _, _, _, h => by cases h; simpa using .nil
  | d :: ds, _, k, 0, hf, h => by
    simp only [frzdL, Bool.and_eq_true] at hf
    cases h with
    | cons a b => exact b.re hf.2
  | d :: ds, _, k, n + 1, hf, h => by
    simp only [frzdL, Bool.and_eq_true] at hf
    cases h with
    | cons a b => exact .cons a (b.erase hf.2)
theorem m2_pop {X : Cx} : M2R X "list.pop" fPopAt := by
  intro H ω i xs ys d r w e a vs hH rr hw
  unfold fPopAt at e
  split at e
  · rename_i k
    cases hw.int
    split at e
    · rename_i hz
      unfold popO at e
      split at e
      · rename_i j q1
        split at e
        · rename_i r' q2
          cases e
          obtain ⟨h1, h2, h3, h4⟩ := ixN_seq q1
          have rr' := rr (vs.eraseIdx j)
          have hl := rep_len rr'
          obtain ⟨v, hv, rv⟩ := rr'.nth q2
          refine ⟨vs.eraseIdx j, v, rr'.erase hz.1, rv.any (fun _ _ h => h) (fun a u h z => ⟨h, z⟩) (frzdL_mem hz.1 q2), fun Q kk => ⟨_, mt_popAt, a, vs, k, j, v, rfl, rfl, hH, by omega, by omega, by rw [← hl]; exact h1, hv, kk⟩⟩
        · cases e
      · cases e
    · cases e
  · cases e
def m2R (i : Nat) (o : Option (List D × D)) (s : S) : Rs D := match o with | some (ys, r) => .ok r (s.set i (some (.lst true ys))) | none => .stuck
def kM2b (i : Nat) (f : List D → D → Option (List D × D)) (d : D) (o : Option (Option D)) (s : S) : Rs D := match o with | some (some (.lst true xs)) => m2R i (f xs d) s | _ => .stuck
def kM2 (i : Nat) (f : List D → D → Option (List D × D)) (d : D) (s : S) : Rs D := kM2b i f d (s[i]?) s
def kM2a (i : Nat) (f : List D → D → Option (List D × D)) (m : M D) (o : Option (Option D)) (s : S) : Rs D := match o with | some (some (.lst true _)) => (m s).bind (kM2 i f) | _ => .stuck
variable {st s : S} {i : Nat} {f : List D → D → Option (List D × D)} {d : D} {m : M D} {xs ys : List D}
theorem q_eM2 : eM2 i f m st = kM2a i f m (st[i]?) st := (rfl)
theorem q_kM2a : kM2a i f m (some (some (.lst true xs))) s = (m s).bind (kM2 i f) := (rfl)
theorem q_kM2 : kM2 i f d s = kM2b i f d (s[i]?) s := (rfl)
theorem q_kM2b : kM2b i f d (some (some (.lst true xs))) s = m2R i (f xs d) s := (rfl)
theorem q_m2R : m2R i (some (ys, d)) s = .ok d (s.set i (some (.lst true ys))) := (rfl)
theorem q_popAt {k : Int} (h : frzdL xs = true) (hk : k.natAbs < 1000000) : fPopAt xs (.int k) = popO xs (ixN xs.length k) := by
  show (if _ then _ else _) = _
  rw [if_pos ⟨h, hk⟩]
end
end SV

namespace SV
open PySem PySem.Spec PyProof.Rows L2
def fzO (o : Option D) : Option D := match o with
  | some d => some (frz d)
  | none => none
def frzS (st : S) : S := st.map fzO
def lnR (st : S) (r : Rs D) : Rs D := match r with
  | .ok (.bl b) _ => .ok (.bl b) st
  | .ok (.int i) _ => .ok (.int i) st
  | .ok .non _ => .ok .non st
  | .ok (.str x) _ => .ok (.str x) st
  | _ => .stuck
def eLn (m : M D) : M D := fun st => lnR st (m (frzS st))
section
variable {m : M D} {st s : S} {o : Option D} {d : D}
theorem q_eLn : eLn m st = lnR st (m (frzS st)) := (rfl)
theorem q_frzS0 : frzS [] = [] := (rfl)
theorem q_frzS1 : frzS (o :: st) = fzO o :: frzS st := (rfl)
theorem q_fzO0 : fzO none = none := (rfl)
theorem q_fzO1 : fzO (some d) = some (frz d) := (rfl)
theorem q_frz_lst {b : Bool} {xs : List D} : frz (.lst b xs) = .lst false (frzL xs) := by simp only [frz]
theorem q_frz_ro {xs : List D} : frz (.ro xs) = .ro (frzL xs) := by simp only [frz]
theorem q_frz_tup {xs : List D} : frz (.tup xs) = .tup (frzL xs) := by simp only [frz]
theorem q_frz_int {i : Int} : frz (.int i) = .int i := by simp only [frz]
theorem q_frz_bl {i : Bool} : frz (.bl i) = .bl i := by simp only [frz]
theorem q_frz_non : frz .non = .non := by simp only [frz]
theorem q_frz_str {x : Str} : frz (.str x) = .str x := by simp only [frz]
end
def lnW (ω : Om) : Om := fun a => match ω a with
  | some (.sl _ _) => none
  | x => x
theorem lnW_sl {ω : Om} {a : Addr} {i : Nat} {q : List Nat} (h : ω a = some (.sl i q)) : lnW ω a = none := by unfold lnW; rw [h]
theorem lnW_none {ω : Om} {a : Addr} (h : ω a = none) : lnW ω a = none := by unfold lnW; rw [h]
theorem lnW_oth {ω : Om} {a : Addr} (h : ω a = some .oth) : lnW ω a = some .oth := by unfold lnW; rw [h]
def lnB (H : Hp) (ω : Om) : Om := fun a => match H a with
  | some _ => ω a
  | none => some .oth
theorem lnB_of {H : Hp} {ω : Om} {a : Addr} {u : HO} (h : H a = some u) : lnB H ω a = ω a := by unfold lnB; rw [h]
theorem Sim.ln {K : PySem.W.Frag} {R : Nat → Bool} {σ0 σ : L2.St} {st : S} {H : Hp} {ω : Om} (s : Sim K R σ0 st σ H ω) : Sim K R σ0 (frzS st) σ H (lnW ω) := by
  refine ⟨by unfold frzS; rw [List.length_map]; exact s.len, fun i d hi => ?_, s.ref_⟩
  unfold frzS at hi
  rw [List.getElem?_map] at hi
  cases q : st[i]? with
  | none => rw [q] at hi; cases hi
  | some o =>
    rw [q] at hi
    cases o with
    | none => cases hi
    | some d0 =>
      cases hi
      obtain ⟨v, e, r⟩ := s.at_ i d0 q
      exact ⟨v, e, r.fz ⟨fun _ _ h => h, fun a u q h e => ⟨h, lnW_sl e⟩, fun a u h e => ⟨h, lnW_none e⟩⟩⟩
theorem Tr.ln {H H' : Hp} {ω ω' : Om} (t : Tr H (lnW ω) H' ω') : Tr H ω H' (lnB H ω) := ⟨t.tup, fun a u h e => by
    refine ⟨(t.keep a u h (e.imp lnW_none lnW_oth)).1, lnB_of h⟩, t.dom⟩
theorem Sim.lnBack {K : PySem.W.Frag} {R : Nat → Bool} {σ0 σ : L2.St} {st : S} {H H' : Hp} {ω ω' : Om} (s : Sim K R σ0 st σ H ω) (t : Tr H (lnW ω) H' ω') : Sim K R σ0 st σ H' (lnB H ω) :=
  s.mv t.tup (fun a u i q h e => ⟨(t.keep a u h (.inl (lnW_sl e))).1, (lnB_of h).trans e⟩) fun a u h e => ⟨(t.keep a u h (.inl (lnW_none e))).1, (lnB_of h).trans e⟩
theorem se_ln {C : Ct} {e : Expr} {m : M D} (h : SE C e m) : SE C e (eLn m) := fun st σ H ω Q s p => by
  refine h (frzS st) σ H (lnW ω) Q s.ln ?_
  unfold eLn at p
  cases q : m (frzS st) with
  | stuck => rw [q] at p; exact p.elim
  | exc x w s1 => rw [q] at p; exact p.elim
  | ok d s1 =>
    rw [q] at p
    have key : ∀ {d : D} {u : V}, scl d = some u → PostE C σ H ω Q (.ok d st) → PostE C σ H (lnW ω) Q (.ok d s1) := fun {d u} hu p v H' ω' t sm r => p v H' _ t.ln (s.lnBack t) (by
      cases d <;> first | cases hu | skip
      all_goals first
        | (cases r; first | exact .non | exact .bl | exact .int | exact .str)
        | simp [scl] at hu)
    cases d with
    | bl b => exact key (d := .bl b) rfl p
    | int b => exact key (d := .int b) rfl p
    | non => exact key (d := .non) rfl p
    | str b => exact key (d := .str b) rfl p
    | _ => exact p.elim
def kLn (st : S) (Q : D → S → Prop) (d : D) (s : S) : Prop := match d with
  | .bl b => Q (.bl b) st
  | .int i => Q (.int i) st
  | .non => Q .non st
  | .str x => Q (.str x) st
  | _ => False
theorem q_kLnB {st s : S} {Q : D → S → Prop} {b : Bool} : kLn st Q (.bl b) s = Q (.bl b) st := (rfl)
theorem q_kLnI {st s : S} {Q : D → S → Prop} {b : Int} : kLn st Q (.int b) s = Q (.int b) st := (rfl)
theorem q_kLnN {st s : S} {Q : D → S → Prop} : kLn st Q .non s = Q .non st := (rfl)
theorem q_kLnS {st s : S} {Q : D → S → Prop} {x : Str} : kLn st Q (.str x) s = Q (.str x) st := (rfl)
theorem Wx_ln {E : Ex} {st : S} {r : Rs D} {Q : D → S → Prop} : Wx E (lnR st r) Q = Wx noE r (kLn st Q) := by
  cases r with
  | ok d s =>
    rw [Wx_ok]
    cases d <;> first | exact Wx_ok | exact Wx_stuck
  | exc x w s => rw [Wx_exc]; exact Wx_stuck
  | stuck => rw [Wx_stuck]; exact Wx_stuck
end SV

namespace SV
open PySem PySem.Spec PyProof.Rows L2
structure XcC (K : PySem.W.Frag) (C : Addr) : Prop where
  oex : OexC K C
  xf : XfC K C
  is : ExcC K C
  wh : PySem.W.findIn K (.ref C) "what" = some none
def isa (x y : Str) : Bool := decide (x = y) || decide (y = "TurnError")
def isaT : String → Option Bool
  | "ValueError" => some true
  | "int" => some false
  | "bool" => some false
  | "str" => some false
  | "tuple" => some false
  | "list" => some false
  | _ => none
structure XF (K : PySem.W.Frag) (xs : List Str) : Prop where
  one : ∀ x ∈ xs, XcC K (He.ga K x)
  init : ∀ x ∈ xs, PySem.W.findIn K (.ref (He.ga K x)) "__init__" = some (some (.ref (He.ma K (He.ga K "TurnError") "__init__")))
  kit : ∀ x ∈ xs, ∀ y ∈ xs, PySem.W.kitOne K (.ref (He.ga K x)) (.ref (He.ga K y)) = some (isa x y)
  exm : ∀ x ∈ xs, ∀ y ∈ xs, PySem.W.exmOne K (.ref (He.ga K x)) (.ref (He.ga K y)) = some (isa x y)
  ty : ∀ x ∈ xs, ∀ T b, isaT T = some b → PySem.W.kitOne K (.ref (He.ga K x)) (.type T) = some b
  fnI : PySem.W.typeIn K (.ref (He.ma K (He.ga K "TurnError") "__init__")) = some (.type "function")
  ve : PySem.W.findCls K (.type "ValueError") (.type "type") "__init__" = some (.val (.builtin "ValueError.__init__"))
theorem xco_ok {P : Program} {w : World} {H : Hp} {h : Heap} {a ed : Addr} {cls : Value} {oe : Obj} (he : h.get? a = some oe) (hz : Zc cls (some ed) oe) (hd : ∃ vs, oe.data = .fields vs) : ObjOk P w H h a (xco a cls ed) :=
  ⟨⟨oe, he, hz, hd⟩, ⟨_, he⟩, fun h1 h2 z k => by
    obtain ⟨t, q, r⟩ := z
    exact ⟨t, k _ q, r⟩⟩
theorem Inv.adopt {X : Cx} {pins : List (Addr × Obj)} {σ : L2.St} {H : Hp} {s : Shared} {a ed : Addr} {cls : Value} {oe : Obj} (I : Inv X pins σ H s) (he : s.heap.get? a = some oe) (hz : Zc cls (some ed) oe) (hd : ∃ vs, oe.data = .fields vs) (na : H a = none)
    (n0 : X.s_0.heap.get? a = none) (nL : a ≠ X.env.locals) (np : ∀ p ∈ X.pn ++ pins, p.1 ≠ a) : Inv X pins σ (upd H a (xco a cls ed)) s := by
  have ne : ∀ {b : Addr} {u : HO}, H b = some u → b ≠ a := fun {b u} h z => by rw [z, na] at h; cases h
  refine ⟨I.ok, I.os, I.bare, ⟨I.base.keep, I.base.slot, fun b o e n hx => ?_, I.base.there, fun b xs e => ?_, fun b o v e => ?_, fun b ps e => ?_⟩, I.loc, I.cell, ?_, fun y c e => ?_, fun p hp => ?_, fun b ob e => ?_, I.len⟩
  · rw [upd_ne (fun z => by rw [z, n0] at e; cases e)]
    exact I.base.free b o e n hx
  · have z := I.base.tups b xs e
    rw [upd_ne (ne z)]
    exact z
  · have z := I.base.frzs b o v e
    rw [upd_ne (ne z)]
    exact z
  · obtain ⟨y, z⟩ := I.base.tbls b ps e
    refine ⟨y, ?_⟩
    rw [upd_ne (ne z)]
    exact z
  · rw [upd_ne (Ne.symm nL)]
    exact I.free
  · rw [upd_ne (fun z => ?_)]
    · exact I.freeC y c e
    · obtain ⟨v, w⟩ := I.cell y c e
      obtain ⟨o', q1, q2⟩ := w
      obtain ⟨vs, hd⟩ := hd
      rw [z, he] at q1
      cases q1
      first | (rw [hd] at q2; cases q2) | (have := q2.symm.trans hd; cases this)
  · obtain ⟨q1, q2, q3⟩ := I.pin p hp
    refine ⟨q1, ?_, q3⟩
    rw [upd_ne (np p hp)]
    exact q2
  · by_cases hb : b = a
    · subst hb
      rw [upd_same] at e
      cases e
      exact xco_ok he hz hd
    · rw [upd_ne hb] at e
      exact (I.hok b ob e).stay (fun c w' hc q => q) (fun c hc => by rw [upd_ne (ne hc)]; exact hc) fun c xs hc => by rw [upd_ne (ne hc)]; exact hc
section
variable {X : Cx} {x n y : Str} {c : Value} {i j : Nat} {body : List Stmt} {np py pe pa pos pos' : Pos} {tb : WX → TS} {Wout : WX}
end
end SV

namespace SV
open PySem PySem.Spec PyProof.Rows L2
def frW (p : Addr) (ω : Om) : Om := fun a => if a = p then none else ω a
theorem frW_ne {a p : Addr} {ω : Om} (h : a ≠ p) : frW p ω a = ω a := if_neg h
section
variable {K : PySem.W.Frag} {R : Nat → Bool} {σ0 σ : L2.St} {st : S} {H H1 : Hp} {ω ω1 : Om} {p : Addr} {o : HO}
theorem Tr.newF (t : Tr H ω H1 ω1) (hp : H1 p = none) : Tr H ω (upd H1 p o) (frW p ω1) := ⟨fun a vs h => by
    have z := t.tup a vs h
    rw [upd_ne (ne_of_none z hp)]
    exact z, fun a u h e => by
    obtain ⟨h1, e1⟩ := t.keep a u h e
    have ne := ne_of_none h1 hp
    rw [upd_ne ne, frW_ne ne]
    exact ⟨h1, e1⟩, fun a h => by
    have h1 := t.dom a h
    rw [upd_ne (fun z => by rw [z] at h1; exact h1 hp)]
    exact h1⟩
theorem Rep.newF {τ τ' : List Nat → Own} {q q' : List Nat} {d : D} {v : V} (hp : H p = none) (hf : frzd d = true) (r : Rep K H ω τ q d v) : Rep K (upd H p o) (frW p ω) τ' q' d v := r.any (fun a vs h => by rw [upd_ne (ne_of_none h hp)]; exact h) (fun a u h e => by
    have ne := ne_of_none h hp
    rw [upd_ne ne, frW_ne ne]
    exact ⟨h, e⟩) hf
theorem Sim.newF (s : Sim K R σ0 st σ H ω) (hp : H p = none) : Sim K R σ0 st σ (upd H p o) (frW p ω) := s.mv (fun a vs h => by rw [upd_ne (ne_of_none h hp)]; exact h) (fun a u i q h e => by
    have ne := ne_of_none h hp
    rw [upd_ne ne, frW_ne ne]
    exact ⟨h, e⟩) (fun a u h e => by
    have ne := ne_of_none h hp
    rw [upd_ne ne, frW_ne ne]
    exact ⟨h, e⟩)
theorem Sim.adopt {i j : Nat} {d : D} {v : V} (s : Sim K R σ0 st σ H ω) (r : Rep K H ω (.sl j) [] d v) (hij : i ≠ j) (hi : R i = false) (hj : R j = false) : Sim K R σ0 ((st.set j (some d)).set i none) (((σ.set i (some v)).set j (some v)).set i none) H ω := by
  refine ⟨by simp [s.len], fun l dd h => ?_, fun l hl => ?_⟩
  · have hli : l ≠ i := fun z => by
      subst z
      by_cases hlt : l < st.length
      · rw [List.getElem?_set_self (by simpa using hlt)] at h; cases h
      · rw [List.getElem?_eq_none (by simpa using hlt)] at h; cases h
    rw [List.getElem?_set_ne (Ne.symm hli)] at h ⊢
    by_cases hlj : l = j
    · subst hlj
      have hlt : l < st.length := by
        have z := (List.getElem?_eq_some_iff.mp h).1
        simpa using z
      rw [List.getElem?_set_self hlt] at h
      cases h
      exact ⟨v, List.getElem?_set_self (by rw [List.length_set, ← s.len]; exact hlt), r⟩
    · rw [List.getElem?_set_ne (Ne.symm hlj)] at h ⊢
      rw [List.getElem?_set_ne (Ne.symm hli)]
      exact s.at_ l dd h
  · have hli : l ≠ i := fun z => by rw [z, hi] at hl; cases hl
    have hlj : l ≠ j := fun z => by rw [z, hj] at hl; cases hl
    rw [List.getElem?_set_ne (Ne.symm hli), List.getElem?_set_ne (Ne.symm hlj), List.getElem?_set_ne (Ne.symm hli)]
    exact s.ref_ l hl
end
def kTry (xs : List Str) (c : Str) (i j : Nat) : Rs Fl → Rs Fl
  | .ok f s => .ok f s
  | .exc x w s => if (xs.contains x && xs.contains c) = true then (if isa x c = true then .ok .nx ((s.set j (some (.xc x (frz w)))).set i none) else .exc x w s) else .stuck
  | .stuck => .stuck
def sTry (xs : List Str) (c : Str) (i j : Nat) (m : M Fl) : M Fl := fun st => kTry xs c i j (m st)
section
variable {C : Ct} {e a b : Expr} {es : List Expr} {pos p : Pos} {x : Str} {xs : List Str} {lv : Nat}
def sRaise (x : Str) (m : M D) : M Fl := fun st => (m st).bind fun d s => .exc x (frz d) s
def kX1 (xs : List Str) (x : Str) : D → Option Bool
  | .fn y => if xs.contains y = true then some (isa x y) else none
  | .ty T => isaT T
  | _ => none
def isCls : D → Bool
  | .fn _ => true
  | .ty _ => true
  | _ => false
def kXA (xs : List Str) (x : Str) : List D → Option Bool
  | [] => some false
  | c :: r => match kX1 xs x c with
    | some true => some true
    | some false => kXA xs x r
    | none => none
def fIsx (xs : List Str) : List D → Option D
  | [.xc x _, .tup cs] => if (xs.contains x && cs.all isCls) = true then (kXA xs x cs).map .bl else none
  | [.xc x _, c] => if (xs.contains x && isCls c) = true then (kX1 xs x c).map .bl else none
  | ds => fIsi ds
def kWh (xs : List Str) (o : Opd) (s : S) : Rs D := match getO s o with
  | some (.xc x w) => if (xs.contains x && frzd w) = true then .ok w s else .stuck
  | _ => .stuck
def eWh (xs : List Str) (m : M Opd) : M D := fun st => (m st).bind (kWh xs)
end
end SV

namespace SV
open PySem PySem.Spec PyProof.Rows L2
section
variable {xs : List Str} {c x : Str} {i j : Nat} {m : M Fl} {st s : S} {w d : D} {E : Ex} {Q : Fl → S → Prop}
theorem q_sTry : sTry xs c i j m st = kTry xs c i j (m st) := (rfl)
theorem q_kTryO {f : Fl} : kTry xs c i j (.ok f s) = .ok f s := (rfl)
theorem q_kTryX : kTry xs c i j (.exc x w s) = if (xs.contains x && xs.contains c) = true then (if isa x c = true then .ok .nx ((s.set j (some (.xc x (frz w)))).set i none) else .exc x w s) else .stuck := (rfl)
@[irreducible] def tryE (E : Ex) (xs : List Str) (c : Str) (i j : Nat) (Q : Fl → S → Prop) : Ex := fun x w s => Wx E (kTry xs c i j (.exc x w s)) Q
theorem q_tryE : tryE E xs c i j Q x w s = Wx E (kTry xs c i j (.exc x w s)) Q := by unfold tryE; rfl
theorem Wx_kTry {r : Rs Fl} : Wx E (kTry xs c i j r) Q = Wx (tryE E xs c i j Q) r Q := by
  cases r with
  | ok f s => rw [q_kTryO, Wx_ok, Wx_ok]
  | exc x w s => rw [Wx_exc, q_tryE]
  | stuck => rw [Wx_stuck]; exact Wx_stuck
def kRaise (x : Str) (d : D) (s : S) : Rs Fl := .exc x (frz d) s
theorem q_sRaise {m : M D} : sRaise x m st = (m st).bind (kRaise x) := (rfl)
theorem q_kRaise : kRaise x d s = .exc x (frz d) s := (rfl)
def whR (xs : List Str) (s : S) : Option D → Rs D
  | some (.xc x w) => if (xs.contains x && frzd w) = true then .ok w s else .stuck
  | _ => .stuck
theorem q_eWh {m : M Opd} : eWh xs m st = (m st).bind (kWh xs) := (rfl)
theorem q_kWh {o : Opd} : kWh xs o s = whR xs s (getO s o) := (rfl)
theorem q_whR : whR xs s (some (.xc x w)) = if (xs.contains x && frzd w) = true then .ok w s else .stuck := (rfl)
theorem q_fz_xc : frz (.xc x w) = .xc x (frz w) := (rfl)
theorem zd_xc : frzd (.xc x w) = frzd w := (rfl)
@[irreducible] def finE (modes : List Bool) (E : Str → D → List D → Prop) : Ex := fun x w st => match backs modes st with
  | some ps => E x w ps
  | none => False
def endX (E : Str → D → List D → Prop) (x : Str) (w : D) : Option (List D) → Prop
  | some ps => E x w ps
  | none => False
theorem endX_at {E : Str → D → List D → Prop} {ps : List D} : endX E x w (some ps) = E x w ps := (rfl)
theorem finEq {modes : List Bool} {E : Str → D → List D → Prop} : finE modes E x w st = endX E x w (backs modes st) := by unfold finE endX; cases backs modes st <;> rfl
theorem is_xn {x : Str} {w : D} : fIs [.xc x w, .non] = some (.bl false) := (rfl)
end
abbrev AlX : Type := Bool × He.AlD
def obsX (xb : List (PySem.W.Frag → Bool)) (fa : List He.Fa) (fn : List He.DefD) (K : PySem.W.Frag) : AlX := (xb.all fun f => f K, He.obsD fa fn K)
def valX (fn : List He.DefD) : AlX := (true, He.valD fn)
def SaysX (xb : List (PySem.W.Frag → Bool)) (fa : List He.Fa) (fn : List He.DefD) (K : PySem.W.Frag) : Prop := obsX xb fa fn K = valX fn
def amAdd : Nat → List Addr → List Addr × Nat
  | m, [] => ([], m)
  | m, a :: as => match m.testBit a with
    | true => amAdd m as
    | false => match amAdd (m ||| (1 <<< a)) as with
      | (r, k) => (a :: r, k)
def amRef (g : Addr → Option Obj) : List Addr → List Addr
  | [] => []
  | a :: as => (match g a with
    | some o => He.refsD o
    | none => []) ++ amRef g as
def amGrw (g : Addr → Option Obj) : List Addr × List Addr × Nat → List Addr × List Addr × Nat
  | (al, fr, m) => match amAdd m (amRef g fr) with
    | (r, k) => (al ++ r, r, k)
def amStp (g : Addr → Option Obj) : Nat → List Addr × List Addr × Nat
  | 0 => ([mainGlobals], [mainGlobals], 1 <<< mainGlobals)
  | n + 1 => amGrw g (amStp g n)
def asM (g : Addr → Option Obj) (n : Nat) : List Addr := (amStp g n).1
def obsXG (n : Nat) (xb : List (PySem.W.Frag → Bool)) (fa : List He.Fa) (fn : List He.DefD) (g : Addr → Option Obj) : AlX := obsX xb fa fn (He.frG g (asM g n))
def hookX (n : Nat) (xb : List (PySem.W.Frag → Bool)) (fa : List He.Fa) (fn : List He.DefD) : PySem.W.Hook where
  α := AlX
  obs := fun s => obsXG n xb fa fn s.heap.get?
  val := fun _ => valX fn
  says := fun _ h => ∃ K : PySem.W.Frag, K.In h ∧ SaysX xb fa fn K
  of := fun _ _ e => ⟨_, He.frG_in, e⟩
  keeps := fun _ _ _ ⟨K, hK, c⟩ k => ⟨K, PySem.W.Frag.In.keeps hK k, c⟩
theorem obsXG_eq {n : Nat} {xb : List (PySem.W.Frag → Bool)} {fa : List He.Fa} {fn : List He.DefD} {g : Addr → Option Obj} {s : Shared} (h : ∀ a, g a = s.heap.get? a) : obsXG n xb fa fn g = (hookX n xb fa fn).obs s := by
  have e : g = s.heap.get? := funext h
  rw [e] <;> rfl
theorem SaysX.d {xb : List (PySem.W.Frag → Bool)} {fa : List He.Fa} {fn : List He.DefD} {K : PySem.W.Frag} (c : SaysX xb fa fn K) : He.SaysD fa fn K := congrArg (fun z : AlX => z.2) c
theorem SaysX.x {xb : List (PySem.W.Frag → Bool)} {fa : List He.Fa} {fn : List He.DefD} {K : PySem.W.Frag} (c : SaysX xb fa fn K) (i : Nat) {f : PySem.W.Frag → Bool} (h : xb[i]? = some f := by rfl) : f K = true := by
  have c1 : (xb.all fun f => f K) = true := congrArg (fun z : AlX => z.1) c
  exact List.all_eq_true.mp c1 f (List.mem_of_getElem? h)
end SV

namespace SV
open PySem PySem.Spec PyProof.Rows L2
def tyC : List String := ["NoneType", "bool", "int", "str", "tuple", "list", "dict"]
structure IF (K : PySem.W.Frag) (xs : List Str) (fl : List (Str × Str)) : Prop where
  cls : ∀ x ∈ xs, Cls K (He.ga K x)
  no : ∀ q ∈ fl, NoAttr K (He.ga K q.1) q.2
  ac : ∀ x ∈ xs, PySem.W.findIn K (.ref (He.ga K x)) "__class__" = some (some (.builtin "object.__class__"))
  gt : PySem.W.specialIn K (.builtin "object.__class__") "__get__" = some (some (.builtin "getset_descriptor.__get__"))
  tk : PySem.W.takesIn K (.builtin "object.__class__") = some true
  mo : ∀ x ∈ xs, PySem.W.mroIn K (He.ga K x) (.type "object") = some true
  kit : ∀ x ∈ xs, ∀ y ∈ xs, PySem.W.kitOne K (.ref (He.ga K x)) (.ref (He.ga K y)) = some (decide (x = y))
  ty : ∀ x ∈ xs, ∀ T ∈ tyC, PySem.W.kitOne K (.type T) (.ref (He.ga K x)) = some false
  ty2 : ∀ x ∈ xs, ∀ T ∈ tyC, PySem.W.kitOne K (.ref (He.ga K x)) (.type T) = some false
def fldV (ns : List Str) (vs : List D) (f : Str) : Option D := match ns, vs with
  | n :: ns, v :: vs => if f = n then some v else fldV ns vs f
  | _, _ => none
def fldR (fl : List (Str × Str)) (f : Str) (s : S) : Option D → Rs D
  | some (.ins _ x ns vs) => (match fldV ns vs f with
    | some d => if (fl.contains (x, f) && frzd d) = true then .ok d s else .stuck
    | none => .stuck)
  | _ => .stuck
def kFld (fl : List (Str × Str)) (f : Str) (o : Opd) (s : S) : Rs D := fldR fl f s (getO s o)
def eFld (fl : List (Str × Str)) (f : Str) (m : M Opd) : M D := fun st => (m st).bind (kFld fl f)
theorem Reps.fldV {K : PySem.W.Frag} {H : Hp} {ω : Om} {τ : List Nat → Own} {f : Str} {d : D} {p : List Nat} : ∀ {ns : List Str} {ds : List D} {vs : List V} {k : Nat}, ns.length = vs.length → Reps K H ω τ p k ds vs → SV.fldV ns ds f = some d → ∃ v q, (ns.zip vs).lookup f = some v ∧ Rep K H ω τ q d v
  | [], _, _, _, _, _, h => by simp [SV.fldV] at h
  | n :: ns, [], _, _, _, _, h => by simp [SV.fldV] at h
  | n :: ns, d0 :: ds, vs, k, hl, r, h => by
    cases r with
    | @cons _ _ _ v _ us a b =>
      unfold SV.fldV at h
      rw [List.zip_cons_cons]
      by_cases e : f = n
      · rw [if_pos e] at h
        cases h
        refine ⟨v, _, ?_, a⟩
        have : (f == n) = true := beq_iff_eq.mpr e
        simp only [List.lookup, this]
      · rw [if_neg e] at h
        obtain ⟨w, q, h1, h2⟩ := Reps.fldV (by simpa using hl) b h
        refine ⟨w, q, ?_, h2⟩
        have : (f == n) = false := by simpa using e
        simp only [List.lookup, this]
        exact h1
section
variable {C : Ct} {e a b o : Expr} {es : List Expr} {pos p : Pos} {x f : Str} {xs : List Str} {fl : List (Str × Str)} {lv : Nat}
def setF (fl : List (Str × Str)) (i : Nat) (f : Str) (d : D) (s : S) : Option D → Rs Fl
  | some (.ins true x ns vs) => if (fl.contains (x, f) && (!ns.contains f && (decide (ns.length = vs.length) && decide (ns.length < 900)))) = true then .ok .nx (s.set i (some (.ins true x (ns ++ [f]) (vs ++ [d])))) else .stuck
  | _ => .stuck
def kSFld (fl : List (Str × Str)) (i : Nat) (f : Str) (d : D) (s : S) : Rs Fl := setF fl i f d s (s[i]?).join
def sFldS (fl : List (Str × Str)) (i : Nat) (f : Str) (m : M D) : M Fl := fun st => (m st).bind (kSFld fl i f)
end
end SV

namespace SV
open PySem PySem.Spec PyProof.Rows L2
section
variable {X : Cx} {W : WX} {k : Nat} {f C : Addr} {fd : FuncData} {ps : List Str} {sp : Sp} {x m : Str} {p pos apos : Pos} {e o : Expr} {es : List Expr} {t : TA} {ta : TE}
end
def argsF (st : S) : List Opd → Option (List D)
  | [] => some []
  | .v d :: os => consR (some (frz d)) (argsF st os)
  | .s i :: os => keepR (st[i]?).join (argsF st os)
def mkR (s : S) : Cr → Rs D
  | .ok .non [d] => .ok d s
  | .exc x w _ => .exc x w s
  | _ => .stuck
def callM (x : Str) (Φ : List D → Cr) : Option (List D) → Cr
  | some ds => Φ (.ins true x [] [] :: ds)
  | none => .stuck
def kMake (n : Nat) (x : Str) (Φ : List D → Cr) (os : List Opd) (s : S) : Rs D := if os.length = n then mkR s (callM x Φ (argsF s os)) else .stuck
def eMake (n : Nat) (x : Str) (Φ : List D → Cr) (ms : M (List Opd)) : M D := fun st => (ms st).bind (kMake n x Φ)
section
variable {C : Ct} {e a b o : Expr} {es : List Expr} {pos p : Pos} {x f m : Str} {xs : List Str} {fl : List (Str × Str)} {lv : Nat}
abbrev MTab := List (Str × List Bool × (List D → Cr))
def tabAt (x : Str) : MTab → Option (List Bool × (List D → Cr))
  | [] => none
  | q :: r => if q.1 = x then some q.2 else tabAt x r
def MT (C : Ct) (lv : Nat) (xs : List Str) (m : Str) : MTab → Prop
  | [] => True
  | q :: r => (q.1 ∈ xs ∧ ∃ k f fd ps, k ≤ lv ∧ Meth C.X.K (He.ga C.X.K q.1) m f ∧ Fn C k f fd ps q.2.1 q.2.2) ∧ MT C lv xs m r
theorem MT.at {tab : MTab} {y : List Bool × (List D → Cr)} : MT C lv xs m tab → tabAt x tab = some y → x ∈ xs ∧ ∃ k f fd ps, k ≤ lv ∧ Meth C.X.K (He.ga C.X.K x) m f ∧ Fn C k f fd ps y.1 y.2 := by
  induction tab with
  | nil => intro _ h; cases h
  | cons q r ih =>
    intro hm h
    unfold tabAt at h
    split at h
    · rename_i e
      cases h
      subst e
      exact hm.1
    · exact ih hm.2 h
def kMethC (y : List Bool × (List D → Cr)) (o : Opd) (os : List Opd) (s : S) : Rs D := kCall y.1 y.2 (o :: os) s
def methT (ms : M (List Opd)) (o : Opd) (s : S) : Option (List Bool × (List D → Cr)) → Rs D
  | some y => (ms s).bind (kMethC y o)
  | none => .stuck
def methR (tab : MTab) (m : Str) (ms : M (List Opd)) (o : Opd) (s : S) : Option D → Rs D
  | some (.ins _ x ns _) => if ns.contains m = false then methT ms o s (tabAt x tab) else .stuck
  | _ => .stuck
def kMeth (tab : MTab) (m : Str) (ms : M (List Opd)) (o : Opd) (s : S) : Rs D := methR tab m ms o s (getO s o)
def eMeth (tab : MTab) (m : Str) (mo : M Opd) (ms : M (List Opd)) : M D := fun st => (mo st).bind (kMeth tab m ms)
def fIsq (xs : List Str) (xe : List Str) : List D → Option D
  | [.ins _ x _ _, .fn y] => if (xs.contains x && xs.contains y) = true then some (.bl (decide (x = y))) else none
  | [.ins _ x _ _, .ty T] => if (xs.contains x && tyC.contains T) = true then some (.bl false) else none
  | [.xc x w, c] => fIsx xe [.xc x w, c]
  | [d, .fn y] => match tyOf d with
    | some t => if (xs.contains y && tyC.contains t) = true then some (.bl false) else none
    | none => none
  | ds => fIsx xe ds
end
end SV

namespace SV
open PySem PySem.Spec PyProof.Rows L2
section
variable {fl : List (Str × Str)} {f x m n : Str} {s st : S} {o : Opd} {os : List Opd} {d v : D} {i k : Nat} {ns : List Str} {vs ds : List D} {w : D}
def fldG (fl : List (Str × Str)) (x f : Str) (s : S) : Option D → Rs D
  | some d => if (fl.contains (x, f) && frzd d) = true then .ok d s else .stuck
  | none => .stuck
theorem q_eFld {m : M Opd} : eFld fl f m st = (m st).bind (kFld fl f) := (rfl)
theorem q_kFld : kFld fl f o s = fldR fl f s (getO s o) := (rfl)
theorem q_fldR {b : Bool} : fldR fl f s (some (.ins b x ns vs)) = fldG fl x f s (fldV ns vs f) := by
  cases h : fldV ns vs f with
  | none => unfold fldR fldG; simp only [h]
  | some d => unfold fldR fldG; simp only [h]
theorem q_fldG : fldG fl x f s (some d) = if (fl.contains (x, f) && frzd d) = true then .ok d s else .stuck := (rfl)
theorem q_fldV : fldV (n :: ns) (v :: vs) f = if f = n then some v else fldV ns vs f := (rfl)
theorem q_sFldS {m : M D} : sFldS fl i f m st = (m st).bind (kSFld fl i f) := (rfl)
theorem q_kSFld : kSFld fl i f d s = setF fl i f d s (s[i]?).join := (rfl)
theorem q_setFld : setF fl i f d s (some (.ins true x ns vs)) = if (fl.contains (x, f) && (!ns.contains f && (decide (ns.length = vs.length) && decide (ns.length < 900)))) = true then .ok .nx (s.set i (some (.ins true x (ns ++ [f]) (vs ++ [d])))) else .stuck := (rfl)
theorem q_eMake {Φ : List D → Cr} {ms : M (List Opd)} : eMake k x Φ ms st = (ms st).bind (kMake k x Φ) := (rfl)
theorem q_kMake {Φ : List D → Cr} : kMake k x Φ os s = if os.length = k then mkR s (callM x Φ (argsF s os)) else .stuck := (rfl)
theorem q_argsF0 : argsF st [] = some [] := (rfl)
theorem q_argsFv : argsF st (.v d :: os) = consR (some (frz d)) (argsF st os) := (rfl)
theorem q_argsFs : argsF st (.s i :: os) = keepR (st[i]?).join (argsF st os) := (rfl)
theorem q_callM {Φ : List D → Cr} : callM x Φ (some ds) = Φ (.ins true x [] [] :: ds) := (rfl)
theorem q_mkRo : mkR s (.ok .non [d]) = .ok d s := (rfl)
theorem q_mkRx {ps : List D} : mkR s (.exc x w ps) = .exc x w s := (rfl)
theorem q_eMeth {tab : MTab} {mo : M Opd} {ms : M (List Opd)} : eMeth tab m mo ms st = (mo st).bind (kMeth tab m ms) := (rfl)
theorem q_kMeth {tab : MTab} {ms : M (List Opd)} : kMeth tab m ms o s = methR tab m ms o s (getO s o) := (rfl)
theorem q_methR {tab : MTab} {ms : M (List Opd)} {b : Bool} : methR tab m ms o s (some (.ins b x ns vs)) = if ns.contains m = false then methT ms o s (tabAt x tab) else .stuck := (rfl)
theorem q_tabAt {y : Str} {modes : List Bool} {Φ : List D → Cr} {r : MTab} : tabAt x ((y, modes, Φ) :: r) = if y = x then some (modes, Φ) else tabAt x r := (rfl)
theorem q_methT {ms : M (List Opd)} {modes : List Bool} {Φ : List D → Cr} : methT ms o s (some (modes, Φ)) = (ms s).bind (kMethC (modes, Φ) o) := (rfl)
theorem q_kMethC {modes : List Bool} {Φ : List D → Cr} : kMethC (modes, Φ) o os s = kCall modes Φ (o :: os) s := (rfl)
theorem zd_ins {b : Bool} : frzd (.ins b x ns vs) = (!b && frzdL vs) := (rfl)
theorem q_frz_ins {b : Bool} : frz (.ins b x ns vs) = .ins false x ns (frzL vs) := (rfl)
theorem nz_ins {b : Bool} : nofz (.ins b x ns vs) = (b && nofzL vs) := (rfl)
theorem is_insN {b : Bool} : fIs [.ins b x ns vs, .non] = some (.bl false) := (rfl)
theorem q_isq {xs xe : List Str} {y : Str} {b : Bool} : fIsq xs xe [.ins b x ns vs, .fn y] = if (xs.contains x && xs.contains y) = true then some (.bl (decide (x = y))) else none := (rfl)
end
section
variable {C : Ct} {pos : Pos} {x : Str}
end
end SV

namespace SV
open PySem PySem.Spec PyProof.Rows L2
def kUnpL (is : List Nat) (d : D) (s : S) : Rs Fl := match d with
  | .lst _ ds => if ds.length = is.length then .ok .nx (setAll s is ds) else .stuck
  | _ => .stuck
def sUnpL (is : List Nat) (m : M D) : M Fl := fun st => (m st).bind (kUnpL is)
theorem q_sUnpL {is : List Nat} {m : M D} {st : S} : sUnpL is m st = (m st).bind (kUnpL is) := (rfl)
theorem q_kUnpL {is : List Nat} {o : Bool} {ds : List D} {s : S} : kUnpL is (.lst o ds) s = if ds.length = is.length then .ok .nx (setAll s is ds) else .stuck := (rfl)
section
variable {C : Ct} {e : Expr} {pos : Pos} {lv : Nat}
end
end SV

namespace SV
open PySem PySem.Spec PyProof.Rows L2
def lsR (s : S) : Option (List Int) → Rs D
  | some ns => if ns.Nodup then .ok (.int (ns.length : Nat)) s else .stuck
  | none => .stuck
def kLs (o : Opd) (s : S) : Rs D := lsR s (setO1 (getO s o))
def eLs (m : M Opd) : M D := fun st => (m st).bind kLs
theorem q_eLs {m : M Opd} {st : S} : eLs m st = (m st).bind kLs := (rfl)
theorem q_kLs {o : Opd} {s : S} : kLs o s = lsR s (setO1 (getO s o)) := (rfl)
theorem q_lsR {s : S} {ns : List Int} : lsR s (some ns) = if ns.Nodup then .ok (.int (ns.length : Nat)) s else .stuck := (rfl)
section
variable {C : Ct} {lv : Nat}
end
end SV

namespace SV
open PySem PySem.Spec PyProof.Rows L2
theorem mp0_reverse {X : Cx} : MP0 X "list.reverse" fReverse := by
  intro H ω i π xs ys r e a vs hH rr
  unfold fReverse at e
  split at e
  · rename_i hf
    cases e
    exact ⟨vs.reverse, .non, Reps.rev hf (rr _), .non, fun Q k => ⟨_, mt_reverse, a, vs, rfl, rfl, hH, k⟩⟩
  · cases e
def idxOf (x : Option V) (xs : Option (List V)) : Option Nat := match x, xs with
  | some v, some vs => vs.findIdx? fun z => eqV z v
  | _, _ => none
def idxR (o : Option Nat) : Option D := match o with
  | some j => some (.int (j : Nat))
  | none => none
def fIndex : List D → Option D
  | [d, x] => idxR (idxOf (scl x) ((lstOf d).bind sclL))
  | _ => none
theorem sm_index {X : Cx} : ScM X "list.index" fIndex := by
  intro H ds vs r hv e
  unfold fIndex at e
  split at e
  · rename_i d x
    obtain ⟨v, _, rfl, h1, w, _, rfl, h2, rfl⟩ := hv
    cases e1 : scl x with
    | none => rw [e1] at e; cases e
    | some u =>
    cases e2 : lstOf d with
    | none => rw [e1, e2] at e; cases e
    | some ys =>
    rw [e1, e2, Option.bind_some] at e
    cases e3 : sclL ys with
    | none => rw [e3] at e; cases e
    | some us =>
    rw [e3] at e
    unfold idxOf at e
    simp only at e
    cases e4 : us.findIdx? (fun z => eqV z u) with
    | none => rw [e4] at e; cases e
    | some j =>
      rw [e4] at e
      cases e
      obtain ⟨a, vs', rfl, hS, hv', _⟩ := h1.lst e2
      obtain ⟨q1, q2⟩ := sclL_vw e3 hv'
      subst q1
      have := scl_vw e1 h2
      subst this
      rw [List.findIdx?_eq_some_iff_getElem] at e4
      obtain ⟨hj, p1, p2⟩ := e4
      refine ⟨_, rfl, fun Q k => ⟨_, mt_index, a, vs', w, j, vs'[j], rfl, rfl, hS, scl_flat e1, q2, List.getElem?_eq_getElem hj, p1, fun m z hm hz => ?_, k⟩⟩
      have hm' : m < vs'.length := by omega
      rw [List.getElem?_eq_getElem hm'] at hz
      cases hz
      simpa using p2 m hm
  · cases e
def insO (xs : List D) (o : Option (List D)) : Option (List D) := match o with
  | some [.int k, d] => if frzdL xs = true ∧ (scl d).isSome = true ∧ xs.length < 100000 ∧ 0 ≤ k ∧ k.natAbs < 1000000 then some (xs.take k.toNat ++ [d] ++ xs.drop k.toNat) else none
  | _ => none
def insR (i : Nat) (s : S) (o : Option (List D)) : Rs D := match o with
  | some ys => .ok .non (s.set i (some (.lst true ys)))
  | none => .stuck
def kIns2 (i : Nat) (os : List Opd) (s : S) (o : Option (Option D)) : Rs D := match o with
  | some (some (.lst true xs)) => insR i s (insO xs (getL s os))
  | _ => .stuck
def kIns1 (i : Nat) (os : List Opd) (s : S) : Rs D := kIns2 i os s (s[i]?)
def kIns (i : Nat) (ms : M (List Opd)) (st : S) (o : Option (Option D)) : Rs D := match o with
  | some (some (.lst true _)) => (ms st).bind (kIns1 i)
  | _ => .stuck
def eIns (i : Nat) (ms : M (List Opd)) : M D := fun st => kIns i ms st (st[i]?)
theorem Reps.dropF {K : PySem.W.Frag} {H : Hp} {ω : Om} {τ : List Nat → Own} {p : List Nat} {ds : List D} {vs : List V} {k j n : Nat} (hf : frzdL ds = true) (h : Reps K H ω τ p k ds vs) : Reps K H ω τ p j (ds.drop n) (vs.drop n) := by
  have : frzdL (ds.drop n) = true := by
    have := hf
    rw [← List.take_append_drop n ds, frzdL_append, Bool.and_eq_true] at this
    exact this.2
  exact (Reps.drop (n := n) h).re this
section
variable {C : Ct} {x : Str} {es : List Expr}
end
section
variable {i : Nat} {ms : M (List Opd)} {st s : S} {os : List Opd} {xs ys : List D} {k : Int} {d : D}
theorem q_eIns : eIns i ms st = kIns i ms st (st[i]?) := (rfl)
theorem q_kIns : kIns i ms st (some (some (.lst true xs))) = (ms st).bind (kIns1 i) := (rfl)
theorem q_kIns1 : kIns1 i os s = kIns2 i os s (s[i]?) := (rfl)
theorem q_kIns2 : kIns2 i os s (some (some (.lst true xs))) = insR i s (insO xs (getL s os)) := (rfl)
theorem q_insO (h : frzdL xs = true) (h2 : (scl d).isSome = true) (h3 : xs.length < 100000) (h4 : 0 ≤ k) (h5 : k.natAbs < 1000000) : insO xs (some [.int k, d]) = some (xs.take k.toNat ++ [d] ++ xs.drop k.toNat) := by
  show (if _ then _ else _) = _
  rw [if_pos ⟨h, h2, h3, h4, h5⟩]
theorem q_insR : insR i s (some ys) = .ok .non (s.set i (some (.lst true ys))) := (rfl)
end
end SV

namespace SV
open PySem PySem.Spec PyProof.Rows L2
def catR (s : S) (o : Option (List D)) : Rs D := match o with
  | some zs => .ok (.lst true zs) s
  | none => .stuck
def catO (os : List Opd) : Option (List D) := match os with
  | [.v (.lst true xs), .v (.lst true ys)] => if xs.length + ys.length ≤ 100000 then some (xs ++ ys) else none
  | _ => none
def kCat (os : List Opd) (s : S) : Rs D := catR s (catO os)
def eCat (ma mb : M Opd) : M D := fun st => (aCons ma (aCons mb aNil) st).bind kCat
theorem q_eCat {ma mb : M Opd} {st : S} : eCat ma mb st = (aCons ma (aCons mb aNil) st).bind kCat := (rfl)
theorem q_kCat {xs ys : List D} {s : S} : kCat [.v (.lst true xs), .v (.lst true ys)] s = catR s (catO [.v (.lst true xs), .v (.lst true ys)]) := (rfl)
theorem q_catO {xs ys : List D} (h : xs.length + ys.length ≤ 100000) : catO [.v (.lst true xs), .v (.lst true ys)] = some (xs ++ ys) := by
  show (if _ then _ else _) = _
  rw [if_pos h]
theorem q_catR {zs : List D} {s : S} : catR s (some zs) = .ok (.lst true zs) s := (rfl)
section
variable {C : Ct} {a b : Expr} {pos : Pos}
end
end SV

namespace SV
open PySem PySem.Spec PyProof.Rows L2
theorem WE.mono {X : Cx} {e : Expr} {σ : L2.St} {H : Hp} {Q Q' : VK} (h : WE X e σ H Q) (k : ∀ v H', Q v H' → Q' v H') : WE X e σ H Q' := by
  obtain ⟨t, pt, ht⟩ := h
  exact ⟨fun σ H Q' => ∃ Q, (∀ v H', Q v H' → Q' v H') ∧ t σ H Q, ⟨fun pins s σ H Q' I ⟨Q, k, ht⟩ => thn (pt.run pins s σ H Q I ht) fun a s1 ⟨x, H1, I1, r, q⟩ => ⟨x, H1, I1, r, k _ _ q⟩⟩, Q, k, ht⟩
def keyD : D → Option Key
  | .int i => some (.inl i)
  | .str x => some (.inr x)
  | _ => none
theorem keyD_vw {K : PySem.W.Frag} {H : Hp} {d : D} {v : V} {k : Key} (h : keyD d = some k) (r : Vw K H d v) : v = kV k := by
  cases d <;> simp only [keyD, Option.some.injEq, reduceCtorEq] at h <;> subst h
  · exact r.int
  · exact r.str
def lookD (kvs : List (Key × D)) (k : Key) : Option D := (kvs.find? fun kv => decide (kv.1 = k)).map (·.2)
def kxD (o : Option (List Key × List D)) (k : Option Key) : Option D := match o, k with
  | some (ks, vs), some k => lookD (ks.zip vs) k
  | _, _ => none
def dctO : Option D → Option (List Key × List D)
  | some (.dct _ ks vs) => some (ks, vs)
  | _ => none
def kKx (os : List Opd) (s : S) : Rs D := match os with
  | [a, b] => SV.ixR a (kxD (dctO (getO s a)) ((getO s b).bind keyD)) s
  | _ => .stuck
def eKx (ma mb : M Opd) : M D := fun st => (aCons ma (aCons mb aNil) st).bind kKx
theorem q_eKx {ma mb : M Opd} {st : S} : eKx ma mb st = (aCons ma (aCons mb aNil) st).bind kKx := (rfl)
theorem q_kKx {a b : Opd} {s : S} : kKx [a, b] s = SV.ixR a (kxD (dctO (getO s a)) ((getO s b).bind keyD)) s := (rfl)
theorem q_kxD {o : Bool} {ks : List Key} {vs : List D} {k : Key} : kxD (dctO (some (.dct o ks vs))) (some k) = lookD (ks.zip vs) k := (rfl)
theorem q_keyI {i : Int} : keyD (.int i) = some (.inl i) := (rfl)
theorem q_keyS {i : Str} : keyD (.str i) = some (.inr i) := (rfl)
theorem look_rep {K : PySem.W.Frag} {H : Hp} {ω : Om} {τ : List Nat → Own} {p : List Nat} {q : Key} : ∀ {ks : List Key} {xs : List D} {vs : List V} {j : Nat} {d : D}, Reps K H ω τ p j xs vs → lookD (ks.zip xs) q = some d → ∃ u r, valV (ks.zip vs) q = some u ∧ Rep K H ω τ r d u
  | [], xs, vs, j, d, _, h => by simp [lookD] at h
  | k :: ks, [], vs, j, d, _, h => by simp [lookD] at h
  | k :: ks, x :: xs, _, j, d, r, h => by
    cases r with
    | cons a b =>
      rename_i v vs
      unfold lookD at h
      rw [List.zip_cons_cons, List.find?_cons] at h
      by_cases e : k = q
      · simp only [decide_eq_true e, Option.map_some, Option.some.injEq] at h
        subst h
        exact ⟨v, _, by unfold valV; rw [List.zip_cons_cons, List.find?_cons]; simp only [decide_eq_true e, Option.map_some], a⟩
      · simp only [decide_eq_false e] at h
        obtain ⟨u, r, h1, h2⟩ := look_rep (ks := ks) b h
        refine ⟨u, r, ?_, h2⟩
        unfold valV at h1 ⊢
        rw [List.zip_cons_cons, List.find?_cons]
        simp only [decide_eq_false e]
        exact h1
section
variable {C : Ct} {lv : Nat} {a b : Expr} {pos : Pos}
theorem se_kx (k : C.Ok lv) {ma mb : M Opd} (ha : SO C a ma) (hb : SO C b mb) (hs : NoSl b := by exact fun _ _ => rfl) : SE C (.Subscript a b pos) (eKx ma mb) := fun st σ H ω Q s p => by
  refine ⟨_, pe_dget (by have := k.units; omega) pe_w pe_w hs, ?_⟩
  refine sa_cons ha (sa_cons hb sa_nil) 0 st σ H ω (fun vs H2 => match vs with | [x, y] => ∃ a v, x = .ref a ∧ DGet H2 a y (some v) ∧ Q v H2 | _ => False) s ?_
  unfold eKx at p
  cases q : aCons ma (aCons mb aNil) st with
  | stuck => rw [q] at p; exact p
  | exc x w s1 => rw [q] at p; exact p
  | ok os s1 =>
    rw [q] at p
    simp only [bind_ok] at p
    intro vs H1 ω1 t1 sm1 r1
    match os, p, r1 with
    | [oa, ob], p, r1 =>
      simp only [kKx] at p
      cases e1 : getO s1 oa with
      | none => rw [e1] at p; exact p.elim
      | some x =>
      cases e2 : getO s1 ob with
      | none => rw [e1, e2] at p; cases x <;> exact p.elim
      | some y =>
      rw [e1, e2] at p
      simp only [Option.bind_some] at p
      cases x with
      | dct o ks xs =>
        simp only [dctO] at p
        cases e3 : keyD y with
        | none => rw [e3] at p; exact p.elim
        | some ky =>
        rw [e3] at p
        simp only [kxD] at p
        cases e4 : lookD (ks.zip xs) ky with
        | none => rw [e4] at p; exact p.elim
        | some r =>
        rw [e4] at p
        simp only [SV.ixR] at p
        by_cases ho : okO oa r = true
        · rw [if_pos ho] at p
          obtain ⟨v, us, rfl, ra, r2⟩ := r1.get sm1 e1
          obtain ⟨w, us2, rfl, rb, r3⟩ := r2.vw1 sm1 e2
          cases r3
          cases keyD_vw e3 rb
          have fin : ∀ u, Rep C.X.K H1 (SV.fzw ω1) .res [] (frz r) u → Q u H1 := fun u ru => p u H1 (SV.fzw ω1) t1.fzw sm1.fzw ru
          show ∃ a u, v = .ref a ∧ DGet H1 a (kV ky) (some u) ∧ Q u H1
          cases oa with
          | v _ =>
            cases ra with
            | dct h hl e rr =>
              obtain ⟨u, qq, h1, h2⟩ := look_rep rr e4
              exact ⟨_, u, rfl, by rw [← h1]; exact .k h, fin u h2.give⟩
          | s i =>
            cases ra with
            | dct h hl e rr =>
              obtain ⟨u, qq, h1, h2⟩ := look_rep rr e4
              exact ⟨_, u, rfl, by rw [← h1]; exact .k h, fin u (Rep.keepF ho h2)⟩
        · rw [if_neg ho] at p; exact p.elim
      | _ => exact p.elim
    | [], p, _ => exact p.elim
    | [_], p, _ => exact p.elim
    | _ :: _ :: _ :: _, p, _ => exact p.elim
end
def ddR (ks : List Key) (s : S) (o : Option (List D)) : Rs D := match o with
  | some ds => if ds.length = ks.length then .ok (.dct true ks ds) s else .stuck
  | none => .stuck
def kDd (ks : List Key) (os : List Opd) (s : S) : Rs D := ddR ks s (keepL s os)
def eDd (ks : List Key) (ms : M (List Opd)) : M D := fun st => (ms st).bind (kDd ks)
theorem q_eDd {ks : List Key} {ms : M (List Opd)} {st : S} : eDd ks ms st = (ms st).bind (kDd ks) := (rfl)
theorem q_kDd {ks : List Key} {os : List Opd} {s : S} : kDd ks os s = ddR ks s (keepL s os) := (rfl)
theorem q_ddR {ks : List Key} {ds : List D} {s : S} (h : ds.length = ks.length) : ddR ks s (some ds) = .ok (.dct true ks ds) s := by
  show (if _ then _ else _) = _
  rw [if_pos h]
def resO (ω : Om) (p : Addr) : Om := fun a => if a = p then some (.res []) else ω a
theorem resO_same {ω : Om} {p : Addr} : resO ω p p = some (.res []) := by unfold resO; rw [if_pos rfl]
theorem resO_ne {ω : Om} {p a : Addr} (h : a ≠ p) : resO ω p a = ω a := by unfold resO; rw [if_neg h]
section
variable {K : PySem.W.Frag} {R : Nat → Bool} {σ0 σ : L2.St} {st : S} {H H1 H2 : Hp} {ω ω1 ω2 : Om} {p : Addr} {o u : HO}
theorem Tr.resN (t : Tr H ω H1 ω1) (hp : H p = none) (h1 : H1 p = some u) (hu : ∀ vs, u ≠ .tup vs) : Tr H ω (upd H1 p o) (resO ω1 p) := by
  have ne : ∀ {a : Addr} {u' : HO}, H a = some u' → a ≠ p := fun {a u'} h z => by rw [z, hp] at h; cases h
  refine ⟨fun a vs h => ?_, fun a u' h e => ?_, fun a h => ?_⟩
  · rw [upd_ne (ne h)]; exact t.tup a vs h
  · obtain ⟨h2, e1⟩ := t.keep a u' h e
    exact ⟨by rw [upd_ne (ne h)]; exact h2, (resO_ne (ne h)).trans e1⟩
  · by_cases z : a = p
    · rw [z, upd_same]; exact fun z => nomatch z
    · rw [upd_ne z]; exact t.dom a h
theorem Sim.resN (s : Sim K R σ0 st σ H ω) (hp : H p = some u) (hu : ∀ vs, u ≠ .tup vs) (hw : ω p = some .oth) : Sim K R σ0 st σ (upd H p o) (resO ω p) := by
  have ne : ∀ {a : Addr} {x : Option Own}, ω a = x → x ≠ some .oth → a ≠ p := fun {a x} e hx z => by
    subst z; rw [hw] at e; exact hx e.symm
  exact s.mv (fun a vs h => by
    have : a ≠ p := fun z => by rw [z, hp] at h; cases h; exact hu vs rfl
    rw [upd_ne this]; exact h) (fun a u i q h e => ⟨by rw [upd_ne (ne e (fun z => nomatch z))]; exact h, (resO_ne (ne e (fun z => nomatch z))).trans e⟩) fun a u h e => ⟨by rw [upd_ne (ne e (fun z => nomatch z))]; exact h, (resO_ne (ne e (fun z => nomatch z))).trans e⟩
theorem Reps.resN {d : List D} {vs : List V} {k : Nat} (r : Reps K H ω .res [] k d vs) (hp : H p = some u) (hu : ∀ vs, u ≠ .tup vs) (hw : ω p = some .oth) : Reps K (upd H p o) (resO ω p) .res [] k d vs := by
  have ne : ∀ {a : Addr} {x : Option Own}, ω a = x → x ≠ some .oth → a ≠ p := fun {a x} e hx z => by
    subst z; rw [hw] at e; exact hx e.symm
  have M : Mv H ω Own.res (upd H p o) (resO ω p) Own.res id := ⟨fun _ _ => rfl, fun a vs h => by
    have : a ≠ p := fun z => by rw [z, hp] at h; cases h; exact hu vs rfl
    rw [upd_ne this]; exact h, fun a u q h e => ⟨by rw [upd_ne (ne e (fun z => nomatch z))]; exact h, (resO_ne (ne e (fun z => nomatch z))).trans e⟩, fun a u h e => ⟨by rw [upd_ne (ne e (fun z => nomatch z))]; exact h, (resO_ne (ne e (fun z => nomatch z))).trans e⟩⟩
  exact r.mv M
end
section
variable {C : Ct} {es : List Expr} {pos : Pos} {keys : List (Option Expr)} {ks : List Key}
end
end SV

namespace SV
open PySem PySem.Spec PyProof.Rows L2
def prD : D → Option (Int × Int)
  | .tup [.int a, .int b] => some (a, b)
  | _ => none
theorem prD_eq {d d' : D} {pr : Int × Int} (h : prD (.tup [d, d']) = some pr) : ∃ c c', d = .int c ∧ d' = .int c' := by
  unfold prD at h
  split at h
  · rename_i a b q
    cases q
    exact ⟨_, _, rfl, rfl⟩
  · cases h
def prsD : List D → Option (List (Int × Int))
  | [] => some []
  | d :: r => match prD d, prsD r with
    | some p, some ps => some (p :: ps)
    | _, _ => none
theorem prsD_app : ∀ {xs ys : List D} {ns : List (Int × Int)}, prsD (xs ++ ys) = some ns → ∃ as bs, prsD xs = some as ∧ prsD ys = some bs ∧ ns = as ++ bs
  | [], ys, ns, h => ⟨[], ns, rfl, h, rfl⟩
  | d :: r, ys, ns, h => by
    rw [List.cons_append] at h
    unfold prsD at h
    cases q1 : prD d with
    | none => rw [q1] at h; cases h
    | some p =>
      cases q : prsD (r ++ ys) with
      | none => rw [q1, q] at h; cases h
      | some ms =>
        rw [q1, q] at h; cases h
        obtain ⟨as, bs, h1, h2, h3⟩ := prsD_app q
        exact ⟨p :: as, bs, by unfold prsD; rw [q1, h1], h2, by rw [h3]; rfl⟩
theorem prsD_snoc {c c' : Int} : ∀ {l : List D} {xs : List (Int × Int)}, prsD l = some xs → prsD (l ++ [.tup [.int c, .int c']]) = some (xs ++ [(c, c')])
  | [], _, h => by cases h; rfl
  | a :: l, xs, h => by
    unfold prsD at h
    cases q1 : prD a with
    | none => rw [q1] at h; cases h
    | some p =>
      cases q : prsD l with
      | none => rw [q1, q] at h; cases h
      | some ms =>
        rw [q1, q] at h; cases h
        rw [List.cons_append]
        unfold prsD
        rw [q1, prsD_snoc q]
        rfl
def putI (l : List (Int × Int)) (p : Int × Int) : List (Int × Int) := if (l.any fun q => decide (q.1 = p.1)) = true then l.map (fun q => if q.1 = p.1 then (q.1, p.2) else q) else l ++ [p]
def dicI (ps : List (Int × Int)) : List (Int × Int) := ps.foldl putI []
def prV (p : Int × Int) : Key × V := (.inl p.1, .int p.2)
def prK (p : Int × Int) : Key := .inl p.1
def prW (p : Int × Int) : D := .int p.2
theorem dicI_snoc {ps : List (Int × Int)} {p : Int × Int} : dicI (ps ++ [p]) = putI (dicI ps) p := by unfold dicI; rw [List.foldl_append]; rfl
theorem putI_len {l : List (Int × Int)} {p : Int × Int} : (putI l p).length ≤ l.length + 1 := by
  unfold putI
  split
  · simp
  · simp
theorem dicI_len {ps : List (Int × Int)} : (dicI ps).length ≤ ps.length := by
  have : ∀ (l acc : List (Int × Int)), (l.foldl putI acc).length ≤ acc.length + l.length := by
    intro l
    induction l with
    | nil => intro acc; simp
    | cons a l ih =>
      intro acc
      have h1 := ih (putI acc a)
      have h2 := putI_len (l := acc) (p := a)
      simp only [List.foldl_cons, List.length_cons]
      omega
  have := this ps []
  simpa [dicI] using this
theorem dic_put {as : List (Int × Int)} {c c' : Int} : some (HO.dK (putK ((dicI as).map prV) (.inl c) (.int c'))) = some (HO.dK ((dicI (as ++ [(c, c')])).map prV)) := by
  rw [dicI_snoc]
  congr 2
  generalize dicI as = l
  unfold putK putI
  have e : ((l.map prV).any fun kv => decide (kv.1 = Sum.inl c)) = (l.any fun q => decide (q.1 = c)) := by
    rw [List.any_map]
    congr 1
    funext q
    show decide ((Sum.inl q.1 : Key) = Sum.inl c) = decide (q.1 = c)
    exact decide_eq_decide.mpr ⟨fun z => Sum.inl.inj z, fun z => by rw [z]⟩
  rw [e]
  by_cases h : (l.any fun q => decide (q.1 = c)) = true
  · rw [if_pos h, if_pos h, List.map_map, List.map_map]
    refine List.map_congr_left fun q _ => ?_
    show (if (Sum.inl q.1 : Key) = Sum.inl c then ((Sum.inl q.1 : Key), V.int c') else prV q) = prV (if q.1 = c then (q.1, c') else q)
    by_cases e : q.1 = c
    · rw [if_pos (by rw [e]), if_pos e]; rfl
    · rw [if_neg (fun z => e (Sum.inl.inj z)), if_neg e]
  · rw [if_neg h, if_neg h, List.map_append]; rfl
def mPr (mk mv : M D) : M D := fun st => (mk st).bind fun d s => (mv s).bind fun d' s2 => .ok (.tup [d, d']) s2
def kPr2 (d d' : D) (s : S) : Rs D := .ok (.tup [d, d']) s
def kPr (mv : M D) (d : D) (s : S) : Rs D := (mv s).bind (kPr2 d)
theorem q_mPr {mk mv : M D} {st : S} : mPr mk mv st = (mk st).bind (kPr mv) := (rfl)
theorem q_kPr {mv : M D} {d : D} {s : S} : kPr mv d s = (mv s).bind (kPr2 d) := (rfl)
theorem q_kPr2 {d d' : D} {s : S} : kPr2 d d' s = .ok (.tup [d, d']) s := (rfl)
def dcR (o : Option (List (Int × Int))) (s : S) : Rs D := match o with
  | some ps => .ok (.dct true ((dicI ps).map prK) ((dicI ps).map prW)) s
  | none => .stuck
def kDcE (ds : List D) (s : S) : Rs D := dcR (prsD ds) s
def kDc (vs : List Nat) (g : D → S → Option S) (t : M Bool) (m mv : M D) (ys : List D) (s : S) : Rs D := if ys.length ≤ 4000 then (lcL vs g t (mPr m mv) ys (wipeS s vs)).bind kDcE else .stuck
def eDc (vs : List Nat) (g : D → S → Option S) (i : M (List D)) (t : M Bool) (m mv : M D) : M D := fun st => (i st).bind (kDc vs g t m mv)
theorem q_eDc {vs : List Nat} {g : D → S → Option S} {i : M (List D)} {t : M Bool} {m mv : M D} {st : S} : eDc vs g i t m mv st = (i st).bind (kDc vs g t m mv) := (rfl)
theorem q_kDc {vs : List Nat} {g : D → S → Option S} {t : M Bool} {m mv : M D} {ys : List D} {s : S} : kDc vs g t m mv ys s = if ys.length ≤ 4000 then (lcL vs g t (mPr m mv) ys (wipeS s vs)).bind kDcE else .stuck := (rfl)
theorem q_kDcE {ds : List D} {s : S} : kDcE ds s = dcR (prsD ds) s := (rfl)
theorem q_dcR {ps : List (Int × Int)} {s : S} : dcR (some ps) s = .ok (.dct true ((dicI ps).map prK) ((dicI ps).map prW)) s := (rfl)
section
variable {C : Ct} {lv : Nat} {elt tg iter e : Expr} {ifs : List Expr} {scope : Scope} {own : List (Str × Nat)} {pos : Pos} {H H1 H2 : Hp} {ω ω1 ω2 : Om} {σ : L2.St}
theorem dc_run (k : C.Ok lv) {vs tv : List Nat} {g : D → S → Option S} {i : M (List D)} {t : M Bool} {m mv : M D} {st : S} {Q : VK} {vx : Expr} (hvx : ∀ s H c cl fp, SE (C.blk scope s H c cl fp) vx mv) (hi : SI C tg iter i)
    (hg : ∀ s H c cl fp, SG (C.blk scope s H c cl fp) tg tv g) (ht : ∀ s H c cl fp, STs (C.blk scope s H c cl fp) ifs t) (he : ∀ s H c cl fp, SE (C.blk scope s H c cl fp) elt m)
    (htv : ∀ j ∈ tv, j ∈ vs) (hR : ∀ v ∈ vs, C.R v = false) (s : C.Sim st σ H ω) (p : PostE C σ H ω Q (eDc vs g i t m mv st)) :
    tDc (WI C.X tg iter) (tgAll C scope tg) (ttAll C scope ifs) (teAll C scope elt) (teAll C scope vx) vs σ H Q := by
  show WI C.X tg iter σ H _
  refine hi st σ H ω _ s ?_
  unfold eDc at p
  cases q : i st with
  | stuck => rw [q] at p; exact p
  | exc x w s1 => rw [q] at p; exact p
  | ok ys s1 =>
    rw [q] at p
    simp only [bind_ok, kDc] at p
    by_cases hz : ¬ (ys.length ≤ 4000)
    · rw [if_neg hz] at p
      exact p.elim
    have hz := Decidable.not_not.mp hz
    rw [if_pos hz] at p
    intro J H1 ω1 t1 sm1 J1 Dl hD
    cases hF : lcL vs g t (mPr m mv) ys (wipeS s1 vs) with
    | stuck => rw [hF] at p; exact p.elim
    | exc x w s2 =>
      exfalso
      have : ∀ (ys : List D) (st : S) x w s2, lcL vs g t (mPr m mv) ys st ≠ .exc x w s2 := by
        intro ys
        induction ys with
        | nil => intro st x w s2 h; rw [lcL_nil] at h; cases h
        | cons y ys ih =>
          intro st x w s2 h
          rw [lcL_cons] at h
          split at h
          · cases h
          · split at h
            · split at h
              · rename_i d s3 _
                cases q : lcL vs g t (mPr m mv) ys (wipeS s3 vs) with
                | ok a b => rw [q] at h; cases h
                | exc a b c => exact ih _ _ _ _ q
                | stuck => rw [q] at h; cases h
              · cases h
            · exact ih _ _ _ _ h
            · cases h
      exact this _ _ _ _ _ hF
    | ok ds s2 =>
    rw [hF] at p
    simp only [bind_ok, kDcE] at p
    cases hI : prsD ds with
    | none => rw [hI] at p; exact p.elim
    | some ns =>
    rw [hI] at p
    simp only [dcR] at p
    let Inv1 : Nat → Hp → Prop := fun i H' => ∃ st' acc as ω', Tr H1 ω1 H' ω' ∧ C.Sim st' (wipe σ vs) H' ω' ∧ H' Dl = some (.dK ((dicI as).map prV)) ∧ ω' Dl = some .oth ∧ prsD acc = some as ∧ as.length ≤ i ∧
        Rs.ok ds s2 = (lcL vs g t (mPr m mv) (ys.drop i) st').map (acc ++ ·)
    refine ⟨fun i n H' => n = ys.length - i ∧ i ≤ ys.length ∧ Inv1 i H', ⟨_, rfl, Nat.zero_le _, wipeS s1 vs, [], [], ownO ω1 Dl, Tr.newO (Tr.refl _ _) hD, (sm1.wipe hR).newO hD, upd_same, ownO_same, rfl, Nat.le_refl _, ?_⟩, ?_⟩
    · rw [List.drop_zero, hF]; rfl
    · rintro i n H2 ⟨rfl, hi', st2, acc, as, ω2, t2, sm2, hDl, hwD, hacc, hal, hfin⟩
      by_cases hlt : i < ys.length
      · have ed : ys.drop i = ys[i] :: ys.drop (i + 1) := List.drop_eq_getElem_cons hlt
        have eg : ys[i]? = some ys[i] := List.getElem?_eq_getElem hlt
        rw [ed] at hfin
        obtain ⟨go, yl⟩ := J1.go H2 ω2 i _ t2.n eg
        refine .inr ⟨go, Inv1 (i + 1), fun H' h => ⟨_, by omega, rfl, hlt, h⟩, fun x H3 y => ?_⟩
        obtain ⟨ex, hf, r3⟩ := yl x H3 y
        rw [lcL_cons] at hfin
        intro bs bH bc bcl bfp
        cases q1 : g ys[i] st2 with
        | none => rw [q1] at hfin; cases hfin
        | some s3 =>
          simp only [q1] at hfin
          refine hg bs bH bc bcl bfp st2 (wipe σ vs) H3 (hide ω2) _ x _ (sm2.hid.ext ex) hf (r3.any (fun _ _ h => h) (fun a u h e => ⟨h, hide_none e⟩) hf) ⟨s3, q1, fun σ4 ω4 c4 t4 sm4 => ?_⟩
          have t24 : Tr H2 ω2 H3 ω4 := by
            have z := ex.tr.trans t4
            refine ⟨z.tup, fun a u h e => ?_, z.dom⟩
            obtain ⟨h1, e1⟩ := z.keep a u h (e.imp hide_none hide_oth)
            exact ⟨h1, e1.trans (e.elim (fun e => (hide_none e).trans e.symm) fun e => (hide_oth e).trans e.symm)⟩
          have z4 : wipe σ4 vs = wipe σ vs := wipe_eq (by rw [c4.1, wipe_length]) fun j hj => by
              rw [c4.2 j (fun z => hj (htv j z)), wipe_at hj]
          refine ⟨z4, ?_⟩
          intro bs bH bc bcl bfp
          refine ht bs bH bc bcl bfp s3 σ4 H3 ω4 _ sm4 ?_
          cases q2 : t s3 with
          | stuck => rw [q2] at hfin; cases hfin
          | exc x w s5 => rw [q2] at hfin; cases hfin
          | ok b s5 =>
            rw [q2] at hfin
            cases b with
            | false =>
              simp only at hfin
              intro H5 ω5 t5 sm5
              have t25 := t24.trans t5
              obtain ⟨d1, d2⟩ := t25.keep Dl _ hDl (.inr hwD)
              have l2 := sm5.wipe (vs := vs) hR
              rw [z4] at l2
              exact ⟨_, acc, as, ω5, t2.trans t25, l2, d1, d2.trans hwD, hacc, Nat.le_succ_of_le hal, hfin⟩
            | true =>
              simp only [mPr] at hfin
              intro H5 ω5 t5 sm5
              show teAll C scope elt σ4 H5 _
              intro bs bH bc bcl bfp
              refine he bs bH bc bcl bfp s5 σ4 H5 ω5 _ sm5 ?_
              cases q3 : m s5 with
              | stuck => rw [q3] at hfin; cases hfin
              | exc x w s6 => rw [q3] at hfin; cases hfin
              | ok d s6 =>
                rw [q3] at hfin
                simp only [bind_ok] at hfin
                intro v H6 ω6 t6 sm6 r6
                show teAll C scope vx σ4 H6 _
                intro bs bH bc bcl bfp
                refine hvx bs bH bc bcl bfp s6 σ4 H6 ω6 _ sm6 ?_
                cases q5 : mv s6 with
                | stuck => rw [q5] at hfin; cases hfin
                | exc x w s7 => rw [q5] at hfin; cases hfin
                | ok d' s7 =>
                rw [q5] at hfin
                simp only [bind_ok] at hfin
                show ∀ v H' ω', Tr H6 ω6 H' ω' → _ → _ → _
                intro v' H7 ω7 t7 sm7 r7
                have t27 := ((t24.trans t5).trans t6).trans t7
                obtain ⟨d1, d2⟩ := t27.keep Dl _ hDl (.inr hwD)
                have d2 := d2.trans hwD
                obtain ⟨c, c', rfl, rfl⟩ : ∃ c c', d = .int c ∧ d' = .int c' := by
                  cases q4 : lcL vs g t (mPr m mv) (ys.drop (i + 1)) (wipeS s7 vs) with
                  | stuck => rw [q4] at hfin; cases hfin
                  | exc a b c => rw [q4] at hfin; cases hfin
                  | ok r s8 =>
                    rw [q4] at hfin
                    have e : ds = acc ++ .tup [d, d'] :: r := by cases hfin; rfl
                    rw [e] at hI
                    obtain ⟨_, bs, _, h2, _⟩ := prsD_app hI
                    unfold prsD at h2
                    cases q6 : prD (.tup [d, d']) with
                    | none => rw [q6] at h2; cases h2
                    | some pr => exact prD_eq q6
                cases r6
                cases r7
                refine ⟨(dicI as).map prV, .inl c, rfl, d1, ?_, ?_⟩
                · have := dicI_len (ps := as)
                  show ((dicI as).map prV).length < 2 ^ 24
                  rw [List.length_map]
                  omega
                have l2 := (sm7.updO (o := .dK (putK ((dicI as).map prV) (.inl c) (.int c'))) d1 dk_tup d2).wipe (vs := vs) hR
                rw [z4] at l2
                refine ⟨_, acc ++ [.tup [.int c, .int c']], as ++ [(c, c')], ω7, (t2.trans t27).updO hD d1 dk_tup, l2, ?_, d2, prsD_snoc hacc, by rw [List.length_append]; exact Nat.succ_le_succ hal, ?_⟩
                · rw [upd_same, dic_put]
                · rw [hfin]
                  unfold Rs.map
                  cases lcL vs g t (mPr m mv) (ys.drop (i + 1)) (wipeS s7 vs) with
                  | ok a s => simp only [bind_ok, List.append_assoc, List.singleton_append]
                  | exc x w s => rfl
                  | stuck => rfl
      · have e : i = ys.length := by omega
        subst e
        rw [List.drop_length, lcL_nil] at hfin
        refine .inl ⟨J1.stop H2 ω2 t2.n, ?_⟩
        unfold Rs.map at hfin
        simp only [bind_ok, List.append_nil] at hfin
        cases hfin
        rw [hacc] at hI
        cases hI
        have hD0 : H Dl = none := Decidable.byContradiction fun z => (t1.dom Dl z) hD
        have u0 := (t1.trans t2).resN (o := .dK ((dicI ns).map prV)) hD0 hDl dk_tup
        have eu : upd H2 Dl (.dK ((dicI ns).map prV)) = H2 := by
          funext a
          by_cases z : a = Dl
          · rw [z, upd_same, hDl]
          · rw [upd_ne z]
        have v0 := (sm2.unwipe hR).resN (o := .dK ((dicI ns).map prV)) hDl dk_tup hwD
        rw [eu] at u0 v0
        refine p _ _ _ u0 v0 (.dct (ks := (dicI ns).map prK) (vs := ((dicI ns).map (·.2)).map V.int) ?_ ?_ resO_same ?_)
        · rw [hDl, List.map_map, List.zip_map']
          rfl
        · simp
        · have e : (dicI ns).map prW = ((dicI ns).map (·.2)).map D.int := by rw [List.map_map]; rfl
          rw [e]
          exact ints_reps

theorem se_dc (k : C.Ok lv) {vs tv : List Nat} {g : D → S → Option S} {i : M (List D)} {t : M Bool} {m mv : M D} {vx : Expr} (own : List (Str × Nat)) (ok : BlkOk C.X.N C.X.env.scope scope own) (hi : SI C tg iter i)
    (hg : ∀ s H c cl fp, SG (C.blk scope s H c cl fp) tg tv g) (ht : ∀ s H c cl fp, STs (C.blk scope s H c cl fp) ifs t) (he : ∀ s H c cl fp, SE (C.blk scope s H c cl fp) elt m) (hvx : ∀ s H c cl fp, SE (C.blk scope s H c cl fp) vx mv)
    (hv : own.map (·.2) = vs := by rfl) (htv : ∀ j ∈ tv, j ∈ vs := by decide) (hR : (vs.all fun v => !C.R v) = true := by rfl) (hs : ∀ x, foldedSetIterable iter C.X.env x = pure x := by intro _; rfl) :
    SE C (.DictComp elt vx [⟨tg, iter, ifs, 0⟩] scope pos) (eDc vs g i t m mv) := fun st σ H ω Q s q => by
  have hR : ∀ v ∈ vs, C.R v = false := fun v h => by simpa using List.all_eq_true.mp hR v h
  subst hv
  refine ⟨_, pe_dc k.calm k.nd pi_w ok (g := tgAll C scope tg) (tt := ttAll C scope ifs) (tk := teAll C scope elt) (tv := teAll C scope vx) (fun s H c cl fp => ⟨fun pins s2 σ H2 v u Q I r h => pg_w.run pins s2 σ H2 v u Q I r (h s H c cl fp)⟩)
    (fun s H c cl fp => ⟨fun pins s2 σ H2 Q I h => by obtain ⟨t', h1, h2⟩ := h s H c cl fp; exact h1.run pins s2 σ H2 Q I h2⟩) (fun s H c cl fp => ⟨fun pins s2 σ H2 Q I h => pe_w.run pins s2 σ H2 Q I (h s H c cl fp)⟩) (fun s H c cl fp => ⟨fun pins s2 σ H2 Q I h => pe_w.run pins s2 σ H2 Q I (h s H c cl fp)⟩) hs, ?_⟩
  exact dc_run k hvx hi hg ht he htv hR s q
end
end SV

set_option exponentiation.threshold 4000
namespace SV
open PySem PySem.Spec PyProof.Rows L2
def shO (d : PyData) : Bool := d.showable && (!d.hasDict && (decide (d.depth ≤ 60) && decide (d.shown.length ≤ 100000)))
def rOk (d : D) : Bool := plainD d && ((items d).isSome && shO (toPy d))
def fRepr : List D → Option D
  | [.int i] => if i.natAbs.log2 < 1920 then some (.str (toString i)) else none
  | [d] => if rOk d = true then some (.str (toPy d).shown) else none
  | _ => none
def rReprD (K : PySem.W.Frag) : List V → Hp → VK → Prop := fun xs H Q => ∃ (a : Addr) (d : PyData), xs = [.ref a] ∧ Dp K H (.ref a) d ∧ shO d = true ∧ Q (.str d.shown) H
theorem call_reprD {X : Cx} (hg : X.A.guards = some []) (hu : X.A.units + 64 < cLine) : CallR X (.builtin "repr") (rReprD X.K) := by
  intro pins s σ H xs us Q I r h
  obtain ⟨a, d, rfl, hd, hs, q⟩ := h
  obtain ⟨u, rfl, rv⟩ := vals1 r
  cases (show u = Value.ref a from rv)
  obtain ⟨as, rd⟩ := Dp.reads I d _ _ hd rv
  unfold shO at hs
  simp only [Bool.and_eq_true, decide_eq_true_eq, Bool.not_eq_true'] at hs
  obtain ⟨h1, h2, h3, h4⟩ := hs
  exact PySem.repr_of_reads' rd h1 (PyData.noDict_hsm h2) hg (by omega) (fun _ _ e => e) (fun h' t tk hk => ⟨.str d.shown, H, I.kept hk, ⟨t, rfl⟩, q⟩) (Nat.le_trans h4 (by decide))
theorem sn_repr {X : Cx} (hg : X.A.guards = some []) (hu : X.A.units + 64 < cLine) : ScN X (.builtin "repr") fRepr := by
  intro H ds vs r hv e
  unfold fRepr at e
  split at e
  · obtain ⟨v, _, rfl, h1, rfl⟩ := hv
    split at e
    · rename_i hz
      cases e
      exact ⟨_, rfl, fun Q q => ⟨_, SkE.call_repr_int, _, by rw [h1.int], hz, q⟩⟩
    · cases e
  · obtain ⟨v, _, rfl, h1, rfl⟩ := hv
    split at e
    · rename_i hz
      cases e
      unfold rOk at hz
      simp only [Bool.and_eq_true] at hz
      obtain ⟨z1, z2, z3⟩ := hz
      obtain ⟨xs, q⟩ := Option.isSome_iff_exists.mp z2
      obtain ⟨a, ws, rfl, _, _, _⟩ := h1.items q
      exact ⟨_, rfl, fun Q q => ⟨_, call_reprD hg hu, a, _, rfl, h1.dp z1, z3, q⟩⟩
    · cases e
  · cases e
theorem repr_seq {d : D} (h : rOk d = true) : fRepr [d] = some (.str (toPy d).shown) := by
  unfold fRepr
  split
  · rename_i i e
    cases e
    exact absurd h (by simp [rOk, items])
  · rename_i d' _ e
    cases e
    rw [if_pos h]
  · rename_i h1 h2
    exact (h2 d rfl).elim
theorem sok_of (x : String) : PyData.strOk (Str.ofString x) = true := by
  unfold PyData.strOk
  rw [Str.ofString_eq_toList]
  simp only [List.all_toArray, List.all_map, List.all_eq_true, Function.comp]
  intro c _
  rw [decide_eq_true_eq]
  have h := c.valid
  show c.val.toNat < 0x110000
  rcases h with h | ⟨_, h⟩
  · exact Nat.lt_trans h (by decide)
  · exact h
theorem sok_app {x y : Str} (h1 : PyData.strOk x = true) (h2 : PyData.strOk y = true) : PyData.strOk (x ++ y) = true := by
  unfold PyData.strOk at h1 h2 ⊢
  show (x.cps ++ y.cps).all _ = true
  rw [Array.all_append, h1, h2]
  rfl
theorem sok_join {s : Str} (hs : PyData.strOk s = true) : ∀ {ts : List Str}, (∀ t ∈ ts, PyData.strOk t = true) → PyData.strOk (Str.join s ts) = true
  | [], _ => by simp [Str.join, Str.empty, PyData.strOk]
  | [x], h => h x List.mem_cons_self
  | x :: y :: r, h => by
    show PyData.strOk (x ++ s ++ Str.join s (y :: r)) = true
    exact sok_app (sok_app (h x List.mem_cons_self) hs) (sok_join hs fun t ht => h t (List.mem_cons_of_mem _ ht))
theorem sok_list {ts : List Str} (h : ∀ t ∈ ts, PyData.strOk t = true) : PyData.strOk (listText ts) = true := by
  rw [listText_eq_join]
  exact sok_app (sok_app (sok_of _) (sok_join (sok_of _) h)) (sok_of _)
theorem sok_tuple {ts : List Str} (h : ∀ t ∈ ts, PyData.strOk t = true) : PyData.strOk (tupleText ts) = true := by
  unfold tupleText
  exact sok_app (sok_app (sok_of _) (sok_join (sok_of _) h)) (sok_of _)
structure Sh (d : PyData) (dp n : Nat) : Prop where
  sb : d.showable = true
  nd : d.hasDict = false
  de : d.depth ≤ dp
  ln : d.shown.length ≤ n
  ok : PyData.strOk d.shown = true
theorem Sh.mono {d : PyData} {dp n dp' n' : Nat} (x : Sh d dp n) (h1 : dp ≤ dp') (h2 : n ≤ n') : Sh d dp' n' := ⟨x.sb, x.nd, Nat.le_trans x.de h1, Nat.le_trans x.ln h2, x.ok⟩
theorem lt_log {n k : Nat} (hk : k ≤ 570) (h : n < 10 ^ k) : n.log2 < 1920 := by
  by_cases z : n = 0
  · subst z; decide
  · rw [Nat.log2_lt z]
    have e1 : (10 : Nat) ^ k ≤ 10 ^ 570 := Nat.pow_le_pow_right (by decide) hk
    have e2 : (10 : Nat) ^ 570 ≤ 2 ^ 1920 := by decide +kernel
    omega
theorem sh_int {i : Int} {k : Nat} (h0 : 0 < k) (hk : k ≤ 570) (h : i.natAbs < 10 ^ k) : Sh (.int i) 0 (k + 1) := by
  refine ⟨?_, ?_, ?_, ?_, ?_⟩
  · simp only [PyData.showable, decide_eq_true_eq]; exact lt_log hk h
  · simp only [PyData.hasDict]
  · simp only [PyData.depth]; exact Nat.le_refl _
  · simp only [PyData.shown]
    have := int_text_length_le10 h0 h
    have e : (Str.ofString (toString i)).length = (toString i).length := PySem.ofString_length _
    exact e ▸ this
  · simp only [PyData.shown]
    exact sok_of _
theorem sh_all {dp n : Nat} : ∀ {ds : List PyData}, (∀ d ∈ ds, Sh d dp n) → PyData.showableAll ds = true ∧ PyData.hasDictAll ds = false ∧ PyData.depthAll ds ≤ dp ∧ ((PyData.shownAll ds).map (·.length)).sum ≤ ds.length * n ∧ (PyData.shownAll ds).length = ds.length ∧ ∀ t ∈ PyData.shownAll ds, PyData.strOk t = true
  | [], _ => ⟨rfl, rfl, by simp [PyData.depthAll], by simp [PyData.shownAll], rfl, fun t ht => by simp [PyData.shownAll] at ht⟩
  | d :: ds, h => by
    obtain ⟨a1, a2, a3, a4, a5, a6⟩ := sh_all fun x hx => h x (List.mem_cons_of_mem d hx)
    have b := h d List.mem_cons_self
    refine ⟨?_, ?_, ?_, ?_, ?_, ?_⟩
    · simp only [PyData.showableAll, b.sb, a1, Bool.and_self]
    · simp only [PyData.hasDictAll, b.nd, a2, Bool.or_self]
    · simp only [PyData.depthAll]
      exact Nat.max_le.mpr ⟨b.de, a3⟩
    · simp only [PyData.shownAll, List.map_cons, List.sum_cons, List.length_cons]
      have := b.ln
      rw [Nat.add_mul]
      omega
    · simp only [PyData.shownAll, List.length_cons, a5]
    · intro t ht
      simp only [PyData.shownAll] at ht
      rcases List.mem_cons.mp ht with rfl | ht
      · exact b.ok
      · exact a6 t ht
theorem sh_list {dp n : Nat} {ds : List PyData} (h : ∀ d ∈ ds, Sh d dp n) : Sh (.list ds) (dp + 1) (ds.length * (n + 2) + 3) := by
  obtain ⟨a1, a2, a3, a4, a5, a6⟩ := sh_all h
  refine ⟨by simp only [PyData.showable, a1], by simp only [PyData.hasDict, a2], by simp only [PyData.depth]; omega, ?_, by simp only [PyData.shown]; exact sok_list a6⟩
  simp only [PyData.shown]
  have := listText_len_le (PyData.shownAll ds)
  rw [a5] at this
  rw [Nat.mul_add]
  omega
theorem sh_tuple {dp n : Nat} {ds : List PyData} (h : ∀ d ∈ ds, Sh d dp n) : Sh (.tuple ds) (dp + 1) (ds.length * (n + 2) + 3) := by
  obtain ⟨a1, a2, a3, a4, a5, a6⟩ := sh_all h
  refine ⟨by simp only [PyData.showable, a1], by simp only [PyData.hasDict, a2], by simp only [PyData.depth]; omega, ?_, by simp only [PyData.shown]; exact sok_tuple a6⟩
  simp only [PyData.shown]
  have := tupleText_len_le (PyData.shownAll ds)
  rw [a5] at this
  rw [Nat.mul_add]
  omega
theorem shO_of {d : PyData} {dp n : Nat} (x : Sh d dp n) (h1 : dp ≤ 60) (h2 : n ≤ 100000) : shO d = true := by
  unfold shO
  simp only [x.sb, x.nd, Bool.not_false, Bool.true_and, Bool.and_eq_true, decide_eq_true_eq]
  exact ⟨Nat.le_trans x.de h1, Nat.le_trans x.ln h2⟩
end SV

namespace SV
open PySem PySem.Spec PyProof.Rows L2 RZ
def SqI (t : Bool) (h : Heap) (it l : Addr) (i : Nat) : Prop := match t with
  | true => h.IsTupleIter it l i
  | false => h.IsListIter it l i
def SqO (t : Bool) (h : Heap) (l : Addr) (xs : Array Value) : Prop := match t with
  | true => h.IsTuple l xs
  | false => h.IsList l xs
theorem SqI.obj {t : Bool} {h : Heap} {it l : Addr} {i : Nat} (x : SqI t h it l i) : ∃ o vs, h.get? it = some o ∧ o.data = .fields vs := by
  cases t with
  | true => obtain ⟨o, e, _, d⟩ := (show h.IsTupleIter it l i from x); exact ⟨o, _, e, d⟩
  | false => obtain ⟨o, e, _, d⟩ := (show h.IsListIter it l i from x); exact ⟨o, _, e, d⟩
theorem SqI.on {t : Bool} {h h' : Heap} {it l : Addr} {i : Nat} (x : SqI t h it l i) (k : ∀ o, h.get? it = some o → h'.get? it = some o) : SqI t h' it l i := by
  cases t with
  | true => obtain ⟨o, e, r⟩ := (show h.IsTupleIter it l i from x); exact (show h'.IsTupleIter it l i from ⟨o, k o e, r⟩)
  | false => obtain ⟨o, e, r⟩ := (show h.IsListIter it l i from x); exact (show h'.IsListIter it l i from ⟨o, k o e, r⟩)
theorem SqO.on {t : Bool} {h h' : Heap} {l : Addr} {xs : Array Value} (x : SqO t h l xs) (k : ∀ o, h.get? l = some o → h'.get? l = some o) : SqO t h' l xs := by
  cases t with
  | true => obtain ⟨o, e, r⟩ := (show h.IsTuple l xs from x); exact (show h'.IsTuple l xs from ⟨o, k o e, r⟩)
  | false => obtain ⟨o, e, r⟩ := (show h.IsList l xs from x); exact (show h'.IsList l xs from ⟨o, k o e, r⟩)
theorem SqO.lt {t : Bool} {h : Heap} {l : Addr} {xs : Array Value} (x : SqO t h l xs) : l < h.objs.size := by
  cases t with
  | true => obtain ⟨o, e, r⟩ := (show h.IsTuple l xs from x); exact Heap.lt_size e
  | false => obtain ⟨o, e, r⟩ := (show h.IsList l xs from x); exact Heap.lt_size e
section
variable {prog : Program} {w : World} {A : Around} {E : Value → Shared → Prop} {s : Shared}
theorem draw_item {t : Bool} {it l : Addr} {i : Nat} {xs : Array Value} {x : Value} {Q : Option Value → Shared → Prop} (hi : SqI t s.heap it l i) (hl : SqO t s.heap l xs) (hx : xs[i]? = some x)
    (q : ∀ h', SqI t h' it l (i + 1) → Heap.SameBut it s.heap h' → Q (some x) { s with heap := h' }) : wpAny (model prog w) A (Builtin.SmallTypes.nextOrEnd (.ref it)) Q E s := by
  unfold Builtin.SmallTypes.nextOrEnd
  cases t with
  | true => exact wpAny_bind (wpAny_attempt (nextOf_tuple_item hi hl hx fun h' a b => wpAny_pure (q h' a b)))
  | false => exact wpAny_bind (wpAny_attempt (wpAny_nextOf_list_item hi hl hx fun h' a b => wpAny_pure (q h' a b)))
theorem draw_end {t : Bool} {it l : Addr} {i : Nat} {xs : Array Value} {Q : Option Value → Shared → Prop} (hh : A.handled = none) (hi : SqI t s.heap it l i) (hl : SqO t s.heap l xs) (hx : xs[i]? = none)
    (q : ∀ h', Heap.ExtBut it s.heap h' → Q none { s with heap := h' }) : wpAny (model prog w) A (Builtin.SmallTypes.nextOrEnd (.ref it)) Q E s := by
  unfold Builtin.SmallTypes.nextOrEnd
  have fin : ∀ (h' : Heap) (e : Addr), Heap.ExtBut it s.heap h' → (∃ o, h'.get? e = some o ∧ o.cls = .type "StopIteration") →
      wpAny (model prog w) A (do if ← isInstance (.ref e) (.type "StopIteration") then pure none else throw (.ref e)) Q E { s with heap := h' } := fun h' e k ⟨o, ho, hc⟩ => by
    refine wpAny_bind (wpAny_isInstance (T := "StopIteration") (b := true) ⟨o, ho, hc⟩ isSubtype_stop ?_)
    exact wpAny_pure (q _ k)
  cases t with
  | true => exact wpAny_bind (wpAny_attempt (nextOf_tuple_end hh hi hl hx fun h' e k he => fin h' e k he))
  | false => exact wpAny_bind (wpAny_attempt (wpAny_nextOf_list_end hh hi hl hx fun h' e k he => fin h' e k he))
abbrev IsZipS (h : Heap) (z TI TO : Addr) (f0 : Value) : Prop :=
  h.get? z = some { cls := .type "zip", dict := none, data := .fields #[f0, .bool false, .bool true, .ref TI, .ref TO], slots := #[] }
theorem zipS_next {ta tb : Bool} {z TI TO i1 i2 l1 l2 : Addr} {k : Nat} {xs ys : Array Value} {x y a b : Value} {Q : Value → Shared → Prop} (D : ZipApart z TI TO i1 i2 l1 l2)
    (hz : IsZipS s.heap z TI TO .none) (hTI : IsPair s.heap TI (.ref i1) (.ref i2)) (hTO : IsPair s.heap TO a b)
    (h1 : SqI ta s.heap i1 l1 k) (h2 : SqI tb s.heap i2 l2 k) (hl1 : SqO ta s.heap l1 xs) (hl2 : SqO tb s.heap l2 ys) (hx : xs[k]? = some x) (hy : ys[k]? = some y)
    (q : ∀ h', IsZipS h' z TI TO (rawInt s.heap.objs.size) → IsPair h' TO x y → SqI ta h' i1 l1 (k + 1) → SqI tb h' i2 l2 (k + 1) → IsPair h' s.heap.objs.size x y → h'.objs.size = s.heap.objs.size + 1 →
      (∀ c o, c ≠ z → c ≠ TO → c ≠ i1 → c ≠ i2 → s.heap.get? c = some o → h'.get? c = some o) → Q (.ref s.heap.objs.size) { s with heap := h' }) :
    wpAny (model prog w) A (Builtin.«zip.__next__» ⟨[.ref z], []⟩) (fun fin s' => ∃ v, fin = .done (.ret v) ∧ Q v s') E s := by
  show wpAny _ _ (field (.ref z) 2 >>= _) _ _ _
  refine wpAny_bind (wpAny_field hz rfl (x := .bool true) rfl ?_)
  show wpAny _ _ (field (.ref z) 3 >>= _) _ _ _
  refine wpAny_bind (wpAny_field hz rfl (x := .ref TI) rfl ?_)
  refine wpAny_bind (wpAny_seqItems hTI rfl ?_)
  show wpAny _ _ (Builtin.SmallTypes.ownedTupleIsFree (.ref z) >>= _) _ _ _
  refine wpAny_bind ?_
  unfold Builtin.SmallTypes.ownedTupleIsFree
  refine wpAny_bind (wpAny_field hz rfl (x := .none) rfl (wpAny_pure ?_))
  simp only [if_true]
  refine wpAny_bind (wpAny_rule ?_)
  refine wpAny_bind (wpAny_field hz rfl (x := .ref TO) rfl ?_)
  refine wpAny_bind (wpAny_setField_rec hz (by simp) fun g1 z1 s1 => ?_)
  replace z1 : IsZipS g1 z TI TO .ellipsis := z1
  refine wpAny_bind ?_
  simp only [List.zipIdx_cons, List.zipIdx_nil, List.forIn_cons, List.forIn_nil]
  refine wpAny_bind (wpAny_bind (wpAny_onRaise ?_))
  show wpAny _ _ (Builtin.SmallTypes.nextOrEnd (.ref i1)) _ _ _
  refine draw_item (h1.on fun o e => s1.extBut _ _ D.i1z e) (hl1.on fun o e => s1.extBut _ _ D.l1z e) hx fun g2 a2 s2 => ?_
  have p2 : IsPair g2 TO a b := s2.extBut _ _ D.TOi1 (s1.extBut _ _ D.TOz hTO)
  refine wpAny_bind (wpAny_seqItems p2 rfl ?_)
  refine wpAny_bind (wpAny_updateSeq_pair p2 fun g3 p3 s3 => ?_)
  replace p3 : IsPair g3 TO x b := p3
  refine wpAny_bind (wpAny_letGo (wpAny_pure ?_))
  refine wpAny_bind (wpAny_bind (wpAny_onRaise ?_))
  show wpAny _ _ (Builtin.SmallTypes.nextOrEnd (.ref i2)) _ _ _
  refine draw_item (h2.on fun o e => s3.extBut _ _ D.TOi2.symm (s2.extBut _ _ D.i12.symm (s1.extBut _ _ D.i2z e))) (hl2.on fun o e => s3.extBut _ _ D.l2TO (s2.extBut _ _ D.l2i1 (s1.extBut _ _ D.l2z e))) hy fun g4 a4 s4 => ?_
  have p4 : IsPair g4 TO x b := s4.extBut _ _ D.TOi2 p3
  refine wpAny_bind (wpAny_seqItems p4 rfl ?_)
  refine wpAny_bind (wpAny_updateSeq_pair p4 fun g5 p5 s5 => ?_)
  replace p5 : IsPair g5 TO x y := p5
  refine wpAny_bind (wpAny_letGo (wpAny_pure (wpAny_pure ?_)))
  refine wpAny_bind (wpAny_seqItems p5 rfl ?_)
  refine wpAny_bind (wpAny_newTuple ?_)
  have sz : g5.objs.size = s.heap.objs.size := by rw [s5.1, s4.1, s3.1, s2.1, s1.1]
  have z5 : IsZipS g5 z TI TO .ellipsis := s5.extBut _ _ D.TOz.symm (s4.extBut _ _ D.i2z.symm (s3.extBut _ _ D.TOz.symm (s2.extBut _ _ D.i1z.symm z1)))
  have keep5 : ∀ c o, c ≠ z → c ≠ TO → c ≠ i1 → c ≠ i2 → s.heap.get? c = some o → g5.get? c = some o := fun c o n1 n2 n3 n4 e =>
    s5.extBut _ _ n2 (s4.extBut _ _ n4 (s3.extBut _ _ n2 (s2.extBut _ _ n3 (s1.extBut _ _ n1 e))))
  have b1 : SqI ta g5 i1 l1 (k + 1) := a2.on fun o e => s5.extBut _ _ D.TOi1.symm (s4.extBut _ _ D.i12 (s3.extBut _ _ D.TOi1.symm e))
  have b2 : SqI tb g5 i2 l2 (k + 1) := a4.on fun o e => s5.extBut _ _ D.TOi2.symm e
  have ltz : z < g5.objs.size := Heap.lt_size z5
  show wpAny _ _ (Builtin.SmallTypes.ownedTupleHandOut (.ref z) (.ref g5.objs.size) >>= _) _ _ _
  refine wpAny_bind ?_
  unfold Builtin.SmallTypes.ownedTupleHandOut
  have z6 : IsZipS (g5.push { cls := .type "tuple", data := .seq #[x, y] }) z TI TO .ellipsis := Heap.get?_push_of_some _ z5
  refine wpAny_bind (wpAny_setField_rec z6 (by simp) fun g7 z7 s7 => ?_)
  replace z7 : IsZipS g7 z TI TO (rawInt g5.objs.size) := z7
  refine wpAny_setField_rec z7 (by simp) fun g8 z8 s8 => ?_
  replace z8 : IsZipS g8 z TI TO (rawInt g5.objs.size) := z8
  have up : ∀ c o, c ≠ z → g5.get? c = some o → g8.get? c = some o := fun c o n e => s8.extBut _ _ n (s7.extBut _ _ n (Heap.get?_push_of_some _ e))
  have T8 : IsPair g8 g5.objs.size x y := s8.extBut _ _ (Nat.ne_of_gt ltz) (s7.extBut _ _ (Nat.ne_of_gt ltz) (Heap.get?_push_size _ rfl))
  have n8 : g8.objs.size = g5.objs.size + 1 := by rw [s8.1, s7.1, Heap.size_push]
  rw [sz] at z8 T8 n8
  refine wpAny_pure ⟨_, rfl, ?_⟩
  show Q (.ref g5.objs.size) _
  rw [sz]
  exact q g8 z8 (up _ _ D.TOz p5) (b1.on fun o e => up _ o D.i1z e) (b2.on fun o e => up _ o D.i2z e) T8 n8 fun c o n1 n2 n3 n4 e => up c o n1 (keep5 c o n1 n2 n3 n4 e)
theorem zipS_end {ta tb : Bool} {z TI TO i1 i2 l1 l2 : Addr} {k : Nat} {xs ys : Array Value} {a b : Value} {Q : PySem.Fin → Shared → Prop} (hh : A.handled = none) (D : ZipApart z TI TO i1 i2 l1 l2)
    (hz : IsZipS s.heap z TI TO .none) (hTI : IsPair s.heap TI (.ref i1) (.ref i2)) (hTO : IsPair s.heap TO a b)
    (h1 : SqI ta s.heap i1 l1 k) (h2 : SqI tb s.heap i2 l2 k) (hl1 : SqO ta s.heap l1 xs) (hl2 : SqO tb s.heap l2 ys) (hx : xs[k]? = none) (hy : ys[k]? = none)
    (q : ∀ h' e, (∀ c o, c ≠ z → c ≠ TO → c ≠ i1 → c ≠ i2 → s.heap.get? c = some o → h'.get? c = some o) → (∃ o, h'.get? e = some o ∧ o.cls = .type "StopIteration") → E (.ref e) { s with heap := h' }) :
    wpAny (model prog w) A (Builtin.«zip.__next__» ⟨[.ref z], []⟩) Q E s := by
  show wpAny _ _ (field (.ref z) 2 >>= _) _ _ _
  refine wpAny_bind (wpAny_field hz rfl (x := .bool true) rfl ?_)
  show wpAny _ _ (field (.ref z) 3 >>= _) _ _ _
  refine wpAny_bind (wpAny_field hz rfl (x := .ref TI) rfl ?_)
  refine wpAny_bind (wpAny_seqItems hTI rfl ?_)
  show wpAny _ _ (Builtin.SmallTypes.ownedTupleIsFree (.ref z) >>= _) _ _ _
  refine wpAny_bind ?_
  unfold Builtin.SmallTypes.ownedTupleIsFree
  refine wpAny_bind (wpAny_field hz rfl (x := .none) rfl (wpAny_pure ?_))
  simp only [if_true]
  refine wpAny_bind (wpAny_rule ?_)
  refine wpAny_bind (wpAny_field hz rfl (x := .ref TO) rfl ?_)
  refine wpAny_bind (wpAny_setField_rec hz (by simp) fun g1 z1 s1 => ?_)
  replace z1 : IsZipS g1 z TI TO .ellipsis := z1
  refine wpAny_bind ?_
  simp only [List.zipIdx_cons, List.zipIdx_nil, List.forIn_cons, List.forIn_nil]
  refine wpAny_bind (wpAny_bind (wpAny_onRaise ?_))
  show wpAny _ _ (Builtin.SmallTypes.nextOrEnd (.ref i1)) _ _ _
  refine draw_end hh (h1.on fun o e => s1.extBut _ _ D.i1z e) (hl1.on fun o e => s1.extBut _ _ D.l1z e) hx fun g2 s2 => ?_
  have z2 : IsZipS g2 z TI TO .ellipsis := s2 _ _ D.i1z.symm z1
  refine wpAny_bind (wpAny_setField_rec z2 (by simp) fun g3 z3 s3 => ?_)
  have fin : ∀ (h' : Heap), (∀ c o, c ≠ z → c ≠ TO → c ≠ i1 → c ≠ i2 → s.heap.get? c = some o → h'.get? c = some o) → ∀ (B : PySem.Fin → Shared → Prop), wpAny (model prog w) A (Builtin.SmallTypes.stopIteration (α := PySem.Fin)) B E { s with heap := h' } := fun h' hk B => by
    unfold Builtin.SmallTypes.stopIteration
    show wpAny _ _ (newExc (.type "StopIteration") [] >>= _) _ _ _
    refine wpAny_bind ?_
    simp only [newExc, newTuple]
    refine wpAny_bind (wpAny_newObj_type ?_ (by size_fits))
    refine wpAny_bind (m := firstArgMember _ _) (wpAny_of_eq (a := Value.none) (by first | rfl | (simp only [firstArgMember]; rfl)) ?_)
    refine wpAny_newObj_type ?_ (by size_fits)
    simp only [raiseNew]
    refine wpAny_bind (wpAny_handled ?_)
    rw [hh]
    refine wpAny_bind (wpAny_pure (wpAny_throw ?_))
    exact q _ _ (fun c o n1 n2 n3 n4 e => Heap.get?_push_of_some _ (Heap.get?_push_of_some _ (hk c o n1 n2 n3 n4 e))) ⟨_, Heap.get?_push_size _ rfl, rfl⟩
  have hk3 : ∀ c o, c ≠ z → c ≠ TO → c ≠ i1 → c ≠ i2 → s.heap.get? c = some o → g3.get? c = some o := fun c o n1 n2 n3 n4 e => s3.extBut _ _ n1 (s2 _ _ n3 (s1.extBut _ _ n1 e))
  refine wpAny_bind (wpAny_mono (Q := fun _ _ => False) ?_ (fun _ _ z => z.elim) fun _ _ z => z)
  refine wpAny_bind (Q := fun _ _ => False) (m := forIn ((List.drop 1 [Value.ref i1, Value.ref i2]).zipIdx 1) PUnit.unit _) ?_
  simp only [List.drop_succ_cons, List.drop_zero, List.zipIdx_cons, List.zipIdx_nil, List.forIn_cons, List.forIn_nil]
  refine wpAny_bind (wpAny_bind (draw_end hh (h2.on fun o e => s3.extBut _ _ D.i2z (s2 _ _ D.i12.symm (s1.extBut _ _ D.i2z e))) (hl2.on fun o e => s3.extBut _ _ D.l2z (s2 _ _ D.l2i1 (s1.extBut _ _ D.l2z e))) hy fun g4 s4 => ?_))
  refine wpAny_pure ?_
  refine wpAny_pure ?_
  refine wpAny_bind (wpAny_rule ?_)
  exact fin g4 (fun c o n1 n2 n3 n4 e => s4 _ _ n4 (hk3 c o n1 n2 n3 n4 e)) _
theorem zipS_pyNext {ta tb : Bool} {z TI TO i1 i2 l1 l2 : Addr} {k : Nat} {xs ys : Array Value} {x y a b : Value} {Q : Option Value → Shared → Prop} (D : ZipApart z TI TO i1 i2 l1 l2)
    (hz : IsZipS s.heap z TI TO .none) (hTI : IsPair s.heap TI (.ref i1) (.ref i2)) (hTO : IsPair s.heap TO a b)
    (h1 : SqI ta s.heap i1 l1 k) (h2 : SqI tb s.heap i2 l2 k) (hl1 : SqO ta s.heap l1 xs) (hl2 : SqO tb s.heap l2 ys) (hx : xs[k]? = some x) (hy : ys[k]? = some y)
    (q : ∀ h', IsZipS h' z TI TO (rawInt s.heap.objs.size) → IsPair h' TO x y → SqI ta h' i1 l1 (k + 1) → SqI tb h' i2 l2 (k + 1) → IsPair h' s.heap.objs.size x y → h'.objs.size = s.heap.objs.size + 1 →
      (∀ c o, c ≠ z → c ≠ TO → c ≠ i1 → c ≠ i2 → s.heap.get? c = some o → h'.get? c = some o) → Q (some (.ref s.heap.objs.size)) { s with heap := h' }) :
    wpAny (model prog w) A (pyNext (.ref z)) Q E s := by
  have hT : s.TypeIs (.ref z) "zip" := ⟨_, hz, rfl⟩
  unfold pyNext
  refine wpAny_bind (wpAny_attempt (wpAny_callSpecial?_slot (name := Str.ofString "__next__") hT F.slot_zip_next
    (wpAny_call_entry F.slot_zip_next hT F.entry_zip_next (zipS_next D hz hTI hTO h1 h2 hl1 hl2 hx hy fun h' a1 a2 a3 a4 a5 a6 a7 => ?_) (F.args_zip_next_1 _))))
  exact wpAny_pure (q h' a1 a2 a3 a4 a5 a6 a7)
theorem zipS_pyEnd {ta tb : Bool} {z TI TO i1 i2 l1 l2 : Addr} {k : Nat} {xs ys : Array Value} {a b : Value} {Q : Option Value → Shared → Prop} (hh : A.handled = none) (D : ZipApart z TI TO i1 i2 l1 l2)
    (hz : IsZipS s.heap z TI TO .none) (hTI : IsPair s.heap TI (.ref i1) (.ref i2)) (hTO : IsPair s.heap TO a b)
    (h1 : SqI ta s.heap i1 l1 k) (h2 : SqI tb s.heap i2 l2 k) (hl1 : SqO ta s.heap l1 xs) (hl2 : SqO tb s.heap l2 ys) (hx : xs[k]? = none) (hy : ys[k]? = none)
    (q : ∀ h', (∀ c o, c ≠ z → c ≠ TO → c ≠ i1 → c ≠ i2 → s.heap.get? c = some o → h'.get? c = some o) → Q none { s with heap := h' }) : wpAny (model prog w) A (pyNext (.ref z)) Q E s := by
  have hT : s.TypeIs (.ref z) "zip" := ⟨_, hz, rfl⟩
  unfold pyNext
  refine wpAny_bind (wpAny_attempt (wpAny_callSpecial?_slot (name := Str.ofString "__next__") hT F.slot_zip_next
    (wpAny_call_entry F.slot_zip_next hT F.entry_zip_next (zipS_end hh D hz hTI hTO h1 h2 hl1 hl2 hx hy fun h' e hk he => ?_) (F.args_zip_next_1 _))))
  obtain ⟨o, ho, hc⟩ := he
  refine wpAny_bind (wpAny_isInstance (T := "StopIteration") (b := true) ⟨o, ho, hc⟩ isSubtype_stop ?_)
  exact wpAny_pure (q _ hk)
end
abbrev itO (t : Bool) (l : Addr) : Obj := { cls := .type (if t then "tuple_iterator" else "list_iterator"), data := .fields #[.ref l, .int 0 0] }
theorem pyIter_sq {prog : Program} {w : World} {A : Around} {E : Value → Shared → Prop} {s : Shared} {t : Bool} {l : Addr} {xs : Array Value} {Q : Value → Shared → Prop} (hl : SqO t s.heap l xs) (q : Q (.ref s.heap.objs.size) { s with heap := s.heap.push (itO t l) }) : wpAny (model prog w) A (pyIter (.ref l)) Q E s := by
  cases t with
  | true => exact wpAny_pyIter_tuple hl q
  | false => exact wpAny_pyIter_list hl q
section
variable {prog : Program} {w : World} {A : Around} {E : Value → Shared → Prop} {s : Shared}
end
def SqS (K : PySem.W.Frag) (H : Hp) (t : Bool) (a : Addr) (xs : List V) : Prop := match t with
  | true => SqT K H a xs
  | false => SqL K H a xs
theorem SqS.at {X : Cx} {pins : List (Addr × Obj)} {σ : L2.St} {H : Hp} {s : Shared} {t : Bool} {a : Addr} {xs : List V} (I : L2.Inv X pins σ H s) (h : SqS X.K H t a xs) : ∃ its : List Value, Vals xs its ∧ SqO t s.heap a its.toArray := by
  cases t with
  | true => obtain ⟨its, rv, p, _⟩ := I.tuple h; exact ⟨its, rv, (show s.heap.IsTuple a its.toArray from p)⟩
  | false => obtain ⟨its, rv, p, _⟩ := I.list h; exact ⟨its, rv, p.isList⟩
theorem SqS.inj {X : Cx} {pins : List (Addr × Obj)} {σ : L2.St} {H : Hp} {s : Shared} {t : Bool} {a : Addr} {xs ys : List V} (I : L2.Inv X pins σ H s) (h : SqS X.K H t a xs) (h' : SqS X.K H t a ys) : xs = ys := by
  cases t with
  | true => exact I.tuple_inj h h'
  | false => exact I.list_inj h h'
def sqOf : D → Option (List D)
  | .tup xs => some xs
  | d => lstOf d
section
variable {C : Ct} {a b : Expr} {H H1 : Hp} {ω ω1 : Om}
theorem sq_stay {K : PySem.W.Frag} {d : D} {v : V} {ys : List D} (r : Rep K H ω .res [] d v) (hf : frzd d = true) (hq : sqOf d = some ys) : frzdL ys = true ∧ ∃ (a : Addr) (t : Bool), v = .ref a ∧ ∀ H1 ω1, Trn H ω H1 ω1 → ∃ vs, SqS K H1 t a vs ∧ Reps K H1 ω1 .res [] 0 ys vs := by
  cases d with
  | tup xs =>
    cases hq
    refine ⟨hf, ?_⟩
    cases r with
    | tup h rr =>
      refine ⟨_, true, rfl, fun H1 ω1 t => ?_⟩
      have r1 := Rep.stay (q := []) (τ' := .res) t hf (Rep.tup h rr)
      cases r1 with
      | tup h2 rr2 => exact ⟨_, h2.sq, rr2⟩
  | lst o xs =>
    cases hq
    refine ⟨by simp only [frzd, Bool.and_eq_true] at hf; exact hf.2, ?_⟩
    have r0 := r
    cases r with
    | lst h e2 rr =>
      refine ⟨_, false, rfl, fun H1 ω1 t => ?_⟩
      have r1 := Rep.stay (q := []) (τ' := .res) t hf r0
      cases r1 with
      | lst h2 _ rr2 => exact ⟨_, .of h2, rr2⟩
  | ro xs =>
    cases hq
    refine ⟨hf, ?_⟩
    have r0 := r
    cases r with
    | ro h rr =>
      refine ⟨_, false, rfl, fun H1 ω1 t => ?_⟩
      have r1 := Rep.stay (q := []) (τ' := .res) t hf r0
      cases r1 with
      | ro h2 rr2 => exact ⟨_, h2.sq, rr2⟩
  | _ => cases hq
def zipSD (d d' : D) : Option (List D) := match sqOf d, sqOf d' with
  | some xs, some ys => if xs.length = ys.length then some (zipL xs ys) else none
  | _, _ => none
def zipSR (oa ob : Opd) (x y : Option D) (s : S) : Rs (List D) := match x, y with
  | some d, some d1 => if okO oa d = true ∧ okO ob d1 = true then ysR (zipSD (frz d) (frz d1)) s else .stuck
  | _, _ => .stuck
def kZipS (os : List Opd) (s : S) : Rs (List D) := match os with
  | [oa, ob] => zipSR oa ob (getO s oa) (getO s ob) s
  | _ => .stuck
def iZipS (ma mb : M Opd) : M (List D) := fun st => (aCons ma (aCons mb aNil) st).bind kZipS
end
theorem q_iZipS {ma mb : M Opd} {st : S} : iZipS ma mb st = (aCons ma (aCons mb aNil) st).bind kZipS := (rfl)
theorem q_kZipS {oa ob : Opd} {s : S} : kZipS [oa, ob] s = zipSR oa ob (getO s oa) (getO s ob) s := (rfl)
theorem q_zipSR {oa ob : Opd} {d e : D} {s : S} : zipSR oa ob (some d) (some e) s = if okO oa d = true ∧ okO ob e = true then ysR (zipSD (frz d) (frz e)) s else .stuck := (rfl)
theorem zipS_l {o o' : Bool} {xs ys : List D} : zipSD (.lst o xs) (.lst o' ys) = if xs.length = ys.length then some (zipL xs ys) else none := (rfl)
theorem zipS_r {xs ys : List D} : zipSD (.ro xs) (.ro ys) = if xs.length = ys.length then some (zipL xs ys) else none := (rfl)
theorem zipS_t {xs ys : List D} : zipSD (.tup xs) (.tup ys) = if xs.length = ys.length then some (zipL xs ys) else none := (rfl)
theorem zipS_lr {o : Bool} {xs ys : List D} : zipSD (.lst o xs) (.ro ys) = if xs.length = ys.length then some (zipL xs ys) else none := (rfl)
theorem zipS_rl {o : Bool} {xs ys : List D} : zipSD (.ro xs) (.lst o ys) = if xs.length = ys.length then some (zipL xs ys) else none := (rfl)
theorem zipS_tl {o : Bool} {xs ys : List D} : zipSD (.tup xs) (.lst o ys) = if xs.length = ys.length then some (zipL xs ys) else none := (rfl)
theorem zipS_lt {o : Bool} {xs ys : List D} : zipSD (.lst o xs) (.tup ys) = if xs.length = ys.length then some (zipL xs ys) else none := (rfl)
theorem zipS_rt {xs ys : List D} : zipSD (.ro xs) (.tup ys) = if xs.length = ys.length then some (zipL xs ys) else none := (rfl)
theorem zipS_tr {xs ys : List D} : zipSD (.tup xs) (.ro ys) = if xs.length = ys.length then some (zipL xs ys) else none := (rfl)
end SV

namespace SV
open PySem PySem.Spec PyProof.Rows L2 RZ
theorem enumS_new (t : Bool) (l : Addr) (xs : Array Value) :
    Meets (Builtin.«enumerate.__new__» ⟨[.type "enumerate", .ref l], []⟩) (fun _ R s => SqO t s.heap l xs ∧ R (.ok (.ret (.ref (s.heap.push (itO t l)).objs.size)))
        { s with heap := (s.heap.push (itO t l)).push { cls := .type "enumerate", data := .fields #[.none, .bool false, .ref s.heap.objs.size, rawInt 0, .none, .none] } }) :=
  .of_wp fun prog w A R s h => by
    obtain ⟨hp, g, d, tk, os⟩ := s; obtain ⟨hl, h⟩ := h
    have hsub := sub_enumerate
    have hL : SqO t (Shared.heap ⟨hp, g, d, tk, os⟩) l xs := hl
    wp_walk
    refine wpAny_stack_any fun st => wpAny_pure ?_
    split
    · rename_i c _ _ _ _ _
      cases (c == Value.type "enumerate")
      · wp_walk using pyIter_sq hL
        exact ⟨_, rfl, h⟩
      · wp_walk using pyIter_sq hL
        exact ⟨_, rfl, h⟩
    · wp_walk using pyIter_sq hL
      exact ⟨_, rfl, h⟩
section
variable {prog : Program} {w : World} {A : Around} {E : Value → Shared → Prop} {s : Shared}
theorem callS_enum {t : Bool} {l : Addr} {xs : Array Value} {Q : Value → Shared → Prop} (hl : SqO t s.heap l xs)
    (q : ∀ h', IsEnum h' (s.heap.objs.size + 1) s.heap.objs.size 0 .none → SqI t h' s.heap.objs.size l 0 → (∀ b o, s.heap.get? b = some o → h'.get? b = some o) → Q (.ref (s.heap.objs.size + 1)) { s with heap := h' }) :
    wpAny (model prog w) A (call (.type "enumerate") [.ref l]) Q E s := by
  refine callType_new F.called_enumerate (by decide) (F.typeCall_enumerate_1 _) (F.newCall_enumerate_1 _) (fun obj => F.args_object_init_2 obj _) F.entry_enumerate_new (enumS_new t l xs) ⟨hl, ?_⟩
  have n1 : (s.heap.push (itO t l)).objs.size = s.heap.objs.size + 1 := Heap.size_push ..
  show _ ∧ _
  rw [n1]
  have he : IsEnum ((s.heap.push (itO t l)).push { cls := .type "enumerate", data := .fields #[.none, .bool false, .ref s.heap.objs.size, rawInt 0, .none, .none] }) (s.heap.objs.size + 1) s.heap.objs.size 0 .none := by
    have z := Heap.get?_push_size (s.heap.push (itO t l)) (o := { cls := .type "enumerate", data := .fields #[.none, .bool false, .ref s.heap.objs.size, rawInt 0, .none, .none] }) rfl
    rw [n1] at z
    exact z
  refine ⟨⟨_, he, rfl⟩, q _ he ?_ fun b o x => Heap.get?_push_of_some _ (Heap.get?_push_of_some _ x)⟩
  have e : ((s.heap.push (itO t l)).push { cls := .type "enumerate", data := .fields #[.none, .bool false, .ref s.heap.objs.size, rawInt 0, .none, .none] }).get? s.heap.objs.size = some (itO t l) := Heap.get?_push_of_some _ (Heap.get?_push_size _ rfl)
  cases t with
  | true => exact (show Heap.IsTupleIter _ s.heap.objs.size l 0 from ⟨_, e, rfl, rfl⟩)
  | false => exact (show Heap.IsListIter _ s.heap.objs.size l 0 from ⟨_, e, rfl, rfl⟩)
theorem nextOf_sq {t : Bool} {it l : Addr} {i : Nat} {xs : Array Value} {x : Value} {Q : Value → Shared → Prop} (hi : SqI t s.heap it l i) (hl : SqO t s.heap l xs) (hx : xs[i]? = some x)
    (q : ∀ h', SqI t h' it l (i + 1) → Heap.SameBut it s.heap h' → Q x { s with heap := h' }) : wpAny (model prog w) A (Builtin.SmallTypes.nextOf (.ref it)) Q E s := by
  cases t with
  | true => exact nextOf_tuple_item hi hl hx fun h' a b => q h' a b
  | false => exact wpAny_nextOf_list_item hi hl hx fun h' a b => q h' a b
theorem nextOf_sqEnd {t : Bool} {it l : Addr} {i : Nat} {xs : Array Value} {Q : Value → Shared → Prop} (hh : A.handled = none) (hi : SqI t s.heap it l i) (hl : SqO t s.heap l xs) (hx : xs[i]? = none)
    (q : ∀ h' e, Heap.ExtBut it s.heap h' → (∃ o, h'.get? e = some o ∧ o.cls = .type "StopIteration") → E (.ref e) { s with heap := h' }) : wpAny (model prog w) A (Builtin.SmallTypes.nextOf (.ref it)) Q E s := by
  cases t with
  | true => exact nextOf_tuple_end hh hi hl hx q
  | false => exact wpAny_nextOf_list_end hh hi hl hx q
theorem enumS_next {t : Bool} {e it l : Addr} {i : Nat} {xs : Array Value} {x old : Value} {Q : Value → Shared → Prop} (he : IsEnum s.heap e it i old) (hit : SqI t s.heap it l i) (hl : SqO t s.heap l xs) (hx : xs[i]? = some x) (hne : e ≠ it)
    (q : ∀ h', IsEnumOut h' e it ((i : Int) + 1) x s.heap.objs.size → SqI t h' it l (i + 1) → h'.get? s.heap.objs.size = some { cls := .type "tuple", data := .seq #[.int i s.toks, x] } →
      (∀ b o, b ≠ e → b ≠ it → s.heap.get? b = some o → h'.get? b = some o) → Q (.ref s.heap.objs.size) { s with heap := h', toks := s.toks + 1 }) :
    wpAny (model prog w) A (Builtin.«enumerate.__next__» ⟨[.ref e], []⟩) (fun fin s' => ∃ v, fin = .done (.ret v) ∧ Q v s') E s := by
  obtain ⟨hp, g, d, tk, os⟩ := s
  show wpAny _ _ (field (.ref e) 2 >>= _) _ _ _
  refine wpAny_bind (wpAny_field he rfl (x := .ref it) rfl ?_)
  refine wpAny_bind (nextOf_sq hit hl hx fun g1 i1 s1 => ?_)
  replace s1 : Heap.SameBut it hp g1 := s1
  have e1 : IsEnum g1 e it i old := (s1.2 e hne).trans he
  show wpAny _ _ (field (.ref e) 3 >>= _) _ _ ⟨g1, g, d, tk, os⟩
  refine wpAny_bind (wpAny_field e1 rfl (x := rawInt i) rfl ?_)
  show wpAny _ _ (field (.ref e) 4 >>= _) _ _ ⟨g1, g, d, tk, os⟩
  refine wpAny_bind (wpAny_field e1 rfl (x := .none) rfl ?_)
  show wpAny _ _ (mkInt i >>= _) _ _ ⟨g1, g, d, tk, os⟩
  refine wpAny_bind (wpAny_mkInt ?_)
  show wpAny _ _ (setField (.ref e) 3 (rawInt ((i : Int) + 1)) >>= _) _ _ ⟨g1, g, d, tk + 1, os⟩
  refine wpAny_bind (wpAny_setField_rec e1 (by simp) fun g2 e2 s2 => ?_)
  replace s2 : Heap.SameBut e g1 g2 := s2
  replace e2 : IsEnum g2 e it ((i : Int) + 1) old := e2
  show wpAny _ _ (setField (.ref e) 4 .none >>= _) _ _ ⟨g2, g, d, tk + 1, os⟩
  refine wpAny_bind (wpAny_setField_rec e2 (by simp) fun g3 e3 s3 => ?_)
  replace s3 : Heap.SameBut e g2 g3 := s3
  replace e3 : IsEnum g3 e it ((i : Int) + 1) old := e3
  show wpAny _ _ (newTuple [.int i tk, x] >>= _) _ _ ⟨g3, g, d, tk + 1, os⟩
  refine wpAny_bind (wpAny_newTuple ?_)
  let P : Obj := { cls := .type "tuple", data := .seq #[.int i tk, x] }
  have sz : g3.objs.size = hp.objs.size := by rw [s3.1, s2.1, s1.1]
  have lte : e < hp.objs.size := Heap.lt_size he
  have e4 : IsEnum (g3.push P) e it ((i : Int) + 1) old := Heap.get?_push_of_some _ e3
  have p4 : (g3.push P).get? hp.objs.size = some P := by rw [← sz]; exact Heap.get?_push_size _ rfl
  have k4 : ∀ b o, b ≠ e → b ≠ it → hp.get? b = some o → (g3.push P).get? b = some o := fun b o n1 n2 z => Heap.get?_push_of_some _ (s3.extBut b o n1 (s2.extBut b o n1 (s1.extBut b o n2 z)))
  have i4 : SqI t (g3.push P) it l (i + 1) := i1.on fun o z => Heap.get?_push_of_some _ (s3.extBut _ _ hne.symm (s2.extBut _ _ hne.symm z))
  show wpAny _ _ (Builtin.SmallTypes.ownedTupleIsFree (.ref e) >>= _) _ _ ⟨g3.push P, g, d, tk + 1, os⟩
  rw [sz]
  generalize g3.push P = g4 at e4 p4 k4 i4
  refine wpAny_bind ?_
  unfold Builtin.SmallTypes.ownedTupleIsFree
  refine wpAny_bind (wpAny_field e4 rfl (x := .none) rfl (wpAny_pure ?_))
  simp only [if_true]
  refine wpAny_bind (wpAny_rule ?_)
  refine wpAny_bind (wpAny_field e4 rfl (x := old) rfl ?_)
  refine wpAny_bind (wpAny_setField_rec e4 (by simp) fun g5 e5 s5 => ?_)
  replace s5 : Heap.SameBut e g4 g5 := s5
  replace e5 : IsEnum g5 e it ((i : Int) + 1) x := e5
  show wpAny _ _ (Builtin.SmallTypes.ownedTupleHandOut (.ref e) (.ref hp.objs.size) >>= _) _ _ ⟨g5, g, d, tk + 1, os⟩
  refine wpAny_bind ?_
  unfold Builtin.SmallTypes.ownedTupleHandOut
  refine wpAny_bind (wpAny_setField_rec e5 (by simp) fun g6 e6 s6 => ?_)
  replace s6 : Heap.SameBut e g5 g6 := s6
  replace e6 : IsEnumOut g6 e it ((i : Int) + 1) x hp.objs.size := e6
  refine wpAny_setField_rec e6 (by simp) fun g7 e7 s7 => ?_
  replace s7 : Heap.SameBut e g6 g7 := s7
  replace e7 : IsEnumOut g7 e it ((i : Int) + 1) x hp.objs.size := e7
  have up : ∀ b o, b ≠ e → g4.get? b = some o → g7.get? b = some o := fun b o n z => s7.extBut _ _ n (s6.extBut _ _ n (s5.extBut _ _ n z))
  exact wpAny_bind (wpAny_letGo (wpAny_pure ⟨_, rfl, q g7 e7 (i4.on fun o z => up _ o hne.symm z) (up _ _ (Nat.ne_of_gt lte) p4) fun b o n1 n2 z => up b o n1 (k4 b o n1 n2 z)⟩))
theorem enumS_pyNext {t : Bool} {e it l : Addr} {i : Nat} {xs : Array Value} {x old : Value} {Q : Option Value → Shared → Prop} (he : IsEnum s.heap e it i old) (hit : SqI t s.heap it l i) (hl : SqO t s.heap l xs) (hx : xs[i]? = some x) (hne : e ≠ it)
    (q : ∀ h', IsEnumOut h' e it ((i : Int) + 1) x s.heap.objs.size → SqI t h' it l (i + 1) → h'.get? s.heap.objs.size = some { cls := .type "tuple", data := .seq #[.int i s.toks, x] } →
      (∀ b o, b ≠ e → b ≠ it → s.heap.get? b = some o → h'.get? b = some o) → Q (some (.ref s.heap.objs.size)) { s with heap := h', toks := s.toks + 1 }) :
    wpAny (model prog w) A (pyNext (.ref e)) Q E s := by
  have hT : s.TypeIs (.ref e) "enumerate" := ⟨_, he, rfl⟩
  unfold pyNext
  refine wpAny_bind (wpAny_attempt (wpAny_callSpecial?_slot (name := Str.ofString "__next__") hT F.slot_enumerate_next
    (wpAny_call_entry F.slot_enumerate_next hT F.entry_enumerate_next (enumS_next he hit hl hx hne fun h' a b c k => ?_) (F.args_enumerate_next_1 _))))
  exact wpAny_pure (q h' a b c k)
theorem enumS_pyEnd {t : Bool} {e it l : Addr} {i : Nat} {xs : Array Value} {old : Value} {Q : Option Value → Shared → Prop} (hh : A.handled = none) (he : IsEnum s.heap e it i old) (hit : SqI t s.heap it l i) (hl : SqO t s.heap l xs) (hx : xs[i]? = none)
    (q : ∀ h', Heap.ExtBut it s.heap h' → Q none { s with heap := h' }) : wpAny (model prog w) A (pyNext (.ref e)) Q E s := by
  have hT : s.TypeIs (.ref e) "enumerate" := ⟨_, he, rfl⟩
  unfold pyNext
  refine wpAny_bind (wpAny_attempt (wpAny_callSpecial?_slot (name := Str.ofString "__next__") hT F.slot_enumerate_next
    (wpAny_call_entry F.slot_enumerate_next hT F.entry_enumerate_next ?_ (F.args_enumerate_next_1 _))))
  show wpAny _ _ (field (.ref e) 2 >>= _) _ _ _
  refine wpAny_bind (wpAny_field he rfl (x := .ref it) rfl ?_)
  refine wpAny_bind (nextOf_sqEnd hh hit hl hx fun h' x k hx' => ?_)
  obtain ⟨o, ho, hc⟩ := hx'
  refine wpAny_bind (wpAny_isInstance (T := "StopIteration") (b := true) ⟨o, ho, hc⟩ isSubtype_stop ?_)
  exact wpAny_pure (q _ k)
end
def ItE (K : PySem.W.Frag) (t : Bool) (a : Addr) : It where
  go i H := ∃ (xs : List V) (x : V), SqS K H t a xs ∧ xs[i]? = some x
  yld i H v H' := ∃ T x, v = .ref T ∧ H T = none ∧ H' = upd H T (.tup [.int (i : Nat), x]) ∧ ∀ xs, SqS K H t a xs → xs[i]? = some x
  stop i H := ∃ xs : List V, SqS K H t a xs ∧ xs.length ≤ i
theorem turn_enumS {P : Program} {w : World} {K : PySem.W.Frag} {elts : List Expr} {kk : Nat} {tpos : Pos} (t : Bool) (a e it : Addr) :
    Turn P w K (.Tuple elts kk tpos) (ItE K t a) [e, it] e (fun i h => (∃ old, IsEnum h e it ((i : Nat) : Int) old) ∧ SqI t h it a i ∧ e ≠ it) := by
  have two : ∀ {b : Addr}, b ∈ [e, it] → b = e ∨ b = it := fun hb => by simpa using hb
  refine { mem := List.mem_cons_self, obj := ?_, keep := ?_, item := ?_, done := ?_, self := fun A i s Q E st h => let ⟨⟨_, he⟩, _⟩ := st; wpAny_pyIter_enum he h }
  · rintro i h ⟨⟨old, he⟩, hit, _⟩ b hb
    obtain ⟨o, vs, ho, hd⟩ := hit.obj
    rcases two hb with rfl | rfl
    · exact ⟨_, he, fun v q => nomatch q⟩
    · exact ⟨o, ho, fun v q => by rw [hd] at q; cases q⟩
  · rintro i h h' ⟨⟨old, he⟩, hit, hne⟩ k
    exact ⟨⟨old, k e (by simp) _ he⟩, hit.on fun o q => k it (by simp) o q, hne⟩
  · intro X hP hw hK hc i pins s σ H E I hf st hg
    subst hP hw hK
    obtain ⟨⟨old, he⟩, hit, hne⟩ := st
    obtain ⟨xs, x, hq, hx⟩ := hg
    obtain ⟨its, rv, p⟩ := hq.at I
    obtain ⟨u, hu, ru⟩ := rv.get hx
    have lte : e < s.heap.objs.size := Heap.lt_size he
    refine enumS_pyNext he hit p (x := u) (by simpa using hu) hne fun g ho hit' hT hk => ?_
    refine ⟨_, rfl, wpAny_letOwnedTupleGo_enum (s := { s with heap := g, toks := s.toks + 1 }) ho fun g2 he' sb => ?_⟩
    have hT2 : g2.get? s.heap.objs.size = some { cls := .type "tuple", data := .seq #[.int i s.toks, u] } := (sb.2 _ (Nat.ne_of_gt lte)).trans hT
    have new : ObjOk X.prog X.w (upd H s.heap.objs.size (.tup [.int (i : Nat), x])) g2 s.heap.objs.size (.tup [.int (i : Nat), x]) :=
      ⟨by show 2 ≤ sizeLine; decide, [.int i s.toks, u], .cons ⟨_, rfl⟩ (.cons ru .nil), ⟨_, hT2, rfl, _, rfl⟩⟩
    have I1 : L2.Inv X pins σ (upd H s.heap.objs.size (.tup [.int (i : Nat), x])) { s with heap := g2, toks := s.toks + 1 } :=
      I.turnedNew (ch := [e, it]) (fun b ob hb q => (sb.2 b (fun z => hb (by simp [z]))).trans (hk b ob (fun z => hb (by simp [z])) (fun z => hb (by simp [z])) q)) hf (Nat.le_refl _) new
    refine ⟨.ref s.heap.objs.size, _, I1, rfl, ⟨_, x, rfl, I.hok.fresh (Nat.le_refl _), rfl, fun ys hy => by rw [hy.inj I hq]; exact hx⟩, ⟨⟨u, ?_⟩, hit'.on fun o q => (sb.2 it hne.symm).trans q, hne⟩, fun b hb => ?_⟩
    · have e1 : ((i + 1 : Nat) : Int) = (i : Int) + 1 := by omega
      rw [e1]; exact he'
    · have ltb : b < s.heap.objs.size := by
        obtain ⟨_, _, ei, _⟩ := hit.obj
        rcases two hb with rfl | rfl
        · exact lte
        · exact Heap.lt_size ei
      rw [upd_ne (Nat.ne_of_lt ltb)]
      exact (hf b hb).1
  · intro X hP hw hK hc i pins s σ H E I hf st hg
    subst hP hw hK
    obtain ⟨⟨old, he⟩, hit, hne⟩ := st
    obtain ⟨xs, hq, hx⟩ := hg
    obtain ⟨its, rv, p⟩ := hq.at I
    obtain ⟨f0, f1, f2, f3, f4, f5⟩ := hf it (by simp)
    have hl := rv.length
    exact enumS_pyEnd (I.ok.hd hc) he hit p (by simp; omega) fun h' eb => ⟨rfl, I.turned (t' := s.toks) (fun b o hb q => eb b o hb q) f0 f1 f3 f4 f5⟩
def iEnumA (K : PySem.W.Frag) (ta : TA) : TI := fun σ H R => ta σ H fun vs H1 => ∃ a t xs, vs = [.ref a] ∧ SqS K H1 t a xs ∧ R (ItE K t a) H1
theorem pi_enumS {X : Cx} {e : Expr} {ta : TA} {p pos tpos : Pos} {elts : List Expr} {kk : Nat} (hg : Gl X "enumerate") (hm : X.mg "enumerate" = none) (ha : PA X [e] ta) (hs : starEach [e] X.env = [(false, eval e X.env)] := by rfl) :
    PI X (.Tuple elts kk tpos) (.Call (.Name "enumerate" p) [e] [] pos) (iEnumA X.K ta) := by
  refine ⟨fun pins s σ H R I h => ?_⟩
  refine Call_ (ld_blt I hg hm boot_enumerate (PyProof.Rows.callWith_type1 (thn (ha.run pos pins s σ H _ I h) fun us s1 ⟨vs, H1, I1, r1, q1⟩ => ?_) hs rfl))
  obtain ⟨a, t, xs, ex, hq, q⟩ := q1
  subst ex
  obtain ⟨u, rfl, r⟩ := vals1 r1
  cases (show u = Value.ref a from r)
  obtain ⟨its, rv, p'⟩ := hq.at I1
  refine callS_enum p' fun g he hit hk => wpAny_pyIter_enum he ?_
  have I2 : L2.Inv X pins σ H1 { s1 with heap := g } := I1.kept (t' := s1.toks) hk
  refine ⟨s1.heap.objs.size + 1, [s1.heap.objs.size + 1, s1.heap.objs.size], _, _, H1, rfl, I2, turn_enumS t a (s1.heap.objs.size + 1) s1.heap.objs.size, ⟨⟨.none, he⟩, hit, Nat.succ_ne_self _⟩, fun b hb => ?_, q⟩
  have hle : s1.heap.objs.size ≤ b := by
    have e' : b = s1.heap.objs.size + 1 ∨ b = s1.heap.objs.size := by simpa using hb
    rcases e' with z | z
    · rw [z]; exact Nat.le_add_right _ _
    · rw [z]; exact Nat.le_refl _
  exact I1.fpOk hle (I1.hok.fresh hle)
section
variable {C : Ct} {e : Expr} {H H1 : Hp} {ω ω1 : Om}
theorem itok_enumS {K : PySem.W.Frag} {xs : List D} {a : Addr} {t : Bool} (f1 : frzdL xs = true) (k1 : ∀ H1 ω1, Trn H ω H1 ω1 → ∃ vs, SqS K H1 t a vs ∧ Reps K H1 ω1 .res [] 0 xs vs) : ItOk K (ItE K t a) H ω (enumL 0 xs) := by
  refine ⟨fun H1 ω1 i dd tr h => ?_, fun H1 ω1 tr => ?_⟩
  · rw [enumL_get] at h
    cases q : xs[i]? with
    | none => rw [q] at h; cases h
    | some c =>
      rw [q] at h
      cases h
      obtain ⟨vs, qx, rx⟩ := k1 H1 ω1 tr
      obtain ⟨v, hv, rv⟩ := rx.nth q
      refine ⟨⟨vs, v, qx, hv⟩, fun z H' y => ?_⟩
      obtain ⟨T, x', rfl, hT, rfl, hx⟩ := y
      cases (hx vs qx).symm.trans hv
      have c1 := frzdL_get f1 q
      exact ⟨Ext.new hT, by simp [frzd, frzdL, c1], .tup (.inl upd_same) (.cons (by rw [Nat.zero_add]; exact .int) (.cons (rv.any (fun _ _ h => Ext.new hT _ _ h) (fun a u h z => ⟨Ext.new hT _ _ h, z⟩) c1) .nil))⟩
  · obtain ⟨vs, qx, rx⟩ := k1 H1 ω1 tr
    refine ⟨vs, qx, ?_⟩
    rw [enumL_len, ← rep_len rx]
    exact Nat.le_refl _
def enS (ys : Option (List D)) (s : S) : Rs (List D) := match ys with
  | some ys => .ok (enumL 0 ys) s
  | none => .stuck
def enR (o : Opd) (d : Option D) (s : S) : Rs (List D) := match d with
  | some d => if okO o d = true then enS (sqOf (frz d)) s else .stuck
  | none => .stuck
def kEnumS (o : Opd) (s : S) : Rs (List D) := enR o (getO s o) s
def iEnumS (m : M Opd) : M (List D) := fun st => (m st).bind kEnumS
theorem si_enumS {m : M Opd} {elts : List Expr} {kk : Nat} {tpos p pos : Pos} (hg : Gl C.X "enumerate" := by rfl) (hm : C.X.mg "enumerate" = none) (h : SO C e m) (hs : starEach [e] C.X.env = [(false, eval e C.X.env)] := by rfl) : SI C (.Tuple elts kk tpos) (.Call (.Name "enumerate" p) [e] [] pos) (iEnumS m) := fun st σ H ω R s q => by
  refine ⟨_, pi_enumS hg hm (pa_wl ⟨hs, trivial⟩) hs, ?_⟩
  show WE C.X e σ H fun v H1 => ∃ a t xs, [v] = [.ref a] ∧ SqS C.X.K H1 t a xs ∧ R (ItE C.X.K t a) H1
  unfold iEnumS at q
  refine h.then (P := PostI C σ H ω R) s q (fun _ _ _ p => p) (fun p => p) fun o s1 p v H1 ω1 t1 sm1 r1 => ?_
  unfold kEnumS enR at p
  cases e1 : getO s1 o with
  | none => rw [e1] at p; exact p.elim
  | some d =>
    rw [e1] at p
    by_cases ho : okO o d = true
    · simp only [ho, if_true] at p
      obtain ⟨v', us, ee, r2⟩ := r1.give1 sm1 e1 ho
      cases ee
      cases z : sqOf (frz d) with
      | none => rw [z] at p; exact p.elim
      | some ys =>
        rw [z] at p
        obtain ⟨f1, a, t, rfl, k1⟩ := sq_stay r2 (frzd_frz d) z
        obtain ⟨vs, q1, _⟩ := k1 H1 (fzw ω1) (Tr.refl _ _).n
        exact ⟨a, t, vs, rfl, q1, p _ H1 _ t1.fzw sm1.fzw (itok_enumS f1 k1)⟩
    · simp only [ho, if_false] at p
      exact p.elim
end
theorem q_iEnumS {m : M Opd} {st : S} : iEnumS m st = (m st).bind kEnumS := (rfl)
theorem q_kEnumS {o : Opd} {s : S} : kEnumS o s = enR o (getO s o) s := (rfl)
theorem q_enR {o : Opd} {d : D} {s : S} : enR o (some d) s = if okO o d = true then enS (sqOf (frz d)) s else .stuck := (rfl)
theorem q_enS {ys : List D} {s : S} : enS (some ys) s = .ok (enumL 0 ys) s := (rfl)
theorem sqOf_l {o : Bool} {xs : List D} : sqOf (.lst o xs) = some xs := (rfl)
theorem sqOf_r {xs : List D} : sqOf (.ro xs) = some xs := (rfl)
theorem sqOf_t {xs : List D} : sqOf (.tup xs) = some xs := (rfl)
end SV

namespace SV
open PySem PySem.Spec PyProof.Rows L2 RZ
def minI : List Int → Int
  | [] => 0
  | a :: r => r.foldl (fun x y => if y < x then y else x) a
theorem foldl_min : ∀ {r : List Int} {a : Int}, (r.foldl (fun x y => if y < x then y else x) a ∈ a :: r) ∧ ∀ b ∈ a :: r, r.foldl (fun x y => if y < x then y else x) a ≤ b
  | [], a => ⟨List.mem_cons_self, fun b hb => by rw [List.mem_singleton.mp hb]; exact Int.le_refl _⟩
  | c :: r, a => by
    rw [List.foldl_cons]
    obtain ⟨h1, h2⟩ := foldl_min (r := r) (a := if c < a then c else a)
    generalize r.foldl (fun x y => if y < x then y else x) (if c < a then c else a) = Z at h1 h2 ⊢
    refine ⟨?_, fun b hb => ?_⟩
    · rcases List.mem_cons.mp h1 with e | e
      · rw [e]
        by_cases q : c < a
        · rw [if_pos q]; exact List.mem_cons_of_mem _ List.mem_cons_self
        · rw [if_neg q]; exact List.mem_cons_self
      · exact List.mem_cons_of_mem _ (List.mem_cons_of_mem _ e)
    · have h3 := h2 _ List.mem_cons_self
      rcases List.mem_cons.mp hb with rfl | hb
      · split at h3 <;> omega
      · rcases List.mem_cons.mp hb with rfl | hb
        · split at h3 <;> omega
        · exact h2 b (List.mem_cons_of_mem _ hb)
theorem minI_eq {ns : List Int} {m : Int} (h1 : m ∈ ns) (h2 : ∀ a ∈ ns, m ≤ a) : minI ns = m := by
  cases ns with
  | nil => exact nomatch h1
  | cons a r =>
    obtain ⟨k1, k2⟩ := foldl_min (r := r) (a := a)
    have e1 := k2 m h1
    have e2 := h2 _ k1
    show r.foldl (fun x y => if y < x then y else x) a = m
    omega
def rMinL (K : PySem.W.Frag) : List V → Hp → VK → Prop := fun xs H Q => ∃ (a : Addr) (ns : List Int), xs = [.ref a] ∧ SqL K H a (ns.map V.int) ∧ 0 < ns.length ∧ Q (.int (minI ns)) H
theorem cr_minL {X : Cx} (hc : X.calm = true) : CallR X (.builtin "min") (rMinL X.K) := by
  intro pins s σ H xs us Q I rx h
  obtain ⟨a, ns, rfl, hS, hn, q⟩ := h
  obtain ⟨u, rfl, r⟩ := vals1 rx
  cases (show u = Value.ref a from r)
  obtain ⟨its, rv, p, _⟩ := I.list hS
  have hi := intsAre_vals rv
  obtain ⟨ys, e⟩ := hi.allInts.items
  have hns : ns = ys.toList.map (·.1) := by rw [← hi.numsOf, ← nums_intItems, ← e]
  have hsz : 0 < ys.size := by have h3 := hn; rw [hns, List.length_map, Array.length_toList] at h3; exact h3
  have hl := p.isList
  rw [e] at hl
  refine min_intList (I.ok.hd hc) hl hsz fun v h' tk hv hk => ?_
  obtain ⟨t, rfl⟩ := intItems_at hv
  obtain ⟨h1, h2⟩ := argBest_lt (numAt ys) (ys.size - 1)
  have e2 : minI ns = numAt ys (argBest (fun i j => decide (numAt ys i < numAt ys j)) (ys.size - 1)) := minI_eq (by
      rw [hns, numAt_eq]; exact getD_mem (by rw [List.length_map, Array.length_toList]; omega)) fun b hb => by
    rw [hns] at hb
    obtain ⟨j, hj, rfl⟩ := mem_getD hb
    rw [List.length_map, Array.length_toList] at hj
    rw [← numAt_eq]
    exact h2 j (by omega)
  exact ⟨.int (minI ns), H, I.kept hk, ⟨t, by rw [e2]⟩, q⟩
def fMinL : List D → Option D
  | [d] => match (lstOf d).bind intsD with
    | some ns => if 0 < ns.length then some (.int (minI ns)) else none
    | none => none
  | _ => none
theorem sn_minL {X : Cx} (hc : X.calm = true) : ScN X (.builtin "min") fMinL := by
  intro H ds vs r hv e
  unfold fMinL at e
  split at e
  · obtain ⟨v, _, rfl, h1, rfl⟩ := hv
    split at e
    · rename_i bs q
      split at e
      · rename_i hz
        cases e
        obtain ⟨a, rfl, hS⟩ := lst_ints h1 q
        exact ⟨_, rfl, fun Q q => ⟨_, cr_minL hc, a, bs, rfl, hS, hz, q⟩⟩
      · cases e
    · cases e
  · cases e
theorem min_l {o : Bool} {ns : List Int} (h : 0 < ns.length) : fMinL [.lst o (ns.map D.int)] = some (.int (minI ns)) := by
  show (match intsD (ns.map D.int) with | some ns => if 0 < ns.length then some (D.int (minI ns)) else none | none => none) = _
  rw [intsD_map]
  exact if_pos h
end SV

namespace SV
open PySem PySem.Spec PyProof.Rows L2 RZ
section
variable {prog : Program} {w : World} {A : Around} {E : Value → Shared → Prop} {s : Shared}
end
def kStar (i j : Nat) (d : D) (s : S) : Rs Fl := match d with
  | .tup (d0 :: ds) => if frzd (.tup (d0 :: ds)) = true ∧ ds.length ≤ 100000 then .ok .nx (setAll s [i, j] [d0, .lst true ds]) else .stuck
  | _ => .stuck
def sStar (i j : Nat) (m : M D) : M Fl := fun st => (m st).bind (kStar i j)
def ownI (ω : Om) (p : Addr) : Om := fun a => if a = p then some (.res [1]) else ω a
theorem ownI_ne {ω : Om} {p a : Addr} (h : a ≠ p) : ownI ω p a = ω a := by unfold ownI; rw [if_neg h]
section
variable {K : PySem.W.Frag} {R : Nat → Bool} {σ0 σ : L2.St} {st : S} {H H1 : Hp} {ω ω1 : Om} {p : Addr} {o : HO}
theorem Tr.newI (t : Tr H ω H1 ω1) (hp : H1 p = none) : Tr H ω (upd H1 p o) (ownI ω1 p) := by
  refine ⟨fun a vs h => Ext.new hp a _ (t.tup a vs h), fun a u h e => ?_, fun a h => Ext.dom (Ext.new hp) a (t.dom a h)⟩
  obtain ⟨h1, e1⟩ := t.keep a u h e
  exact ⟨Ext.new hp a _ h1, (ownI_ne (ne_of_none h1 hp)).trans e1⟩
theorem Sim.newI (s : Sim K R σ0 st σ H ω) (hp : H p = none) : Sim K R σ0 st σ (upd H p o) (ownI ω p) :=
  s.mv (fun a vs h => Ext.new hp a _ h) (fun a u i q h e => ⟨Ext.new hp a _ h, (ownI_ne (ne_of_none h hp)).trans e⟩) fun a u h e => ⟨Ext.new hp a _ h, (ownI_ne (ne_of_none h hp)).trans e⟩
theorem Rep.newI {τ τ' : List Nat → Own} {q q' : List Nat} {d : D} {v : V} (hp : H p = none) (hf : frzd d = true) (r : Rep K H ω τ q d v) : Rep K (upd H p o) (ownI ω p) τ' q' d v :=
  r.any (fun a vs h => Ext.new hp a _ h) (fun a u h e => ⟨Ext.new hp a _ h, (ownI_ne (ne_of_none h hp)).trans e⟩) hf
theorem Reps.newI {τ τ' : List Nat → Own} {p1 p2 : List Nat} : ∀ {ds : List D} {vs : List V} {k k2 : Nat}, H p = none → frzdL ds = true → Reps K H ω τ p1 k ds vs → Reps K (upd H p o) (ownI ω p) τ' p2 k2 ds vs
  | [], _, _, _, _, _, .nil => .nil
  | d :: ds, _, _, _, hp, hf, .cons a b => by
    have hf' : frzd d = true ∧ frzdL ds = true := by simpa [frzdL] using hf
    exact .cons (Rep.newI hp hf'.1 a) (Reps.newI hp hf'.2 b)
end
section
variable {C : Ct} {e : Expr} {pos : Pos}
end
section
variable {C : Ct} {pos : Pos} {x : Str}
end
theorem q_sStar {i j : Nat} {m : M D} {st : S} : sStar i j m st = (m st).bind (kStar i j) := (rfl)
theorem q_kStar {i j : Nat} {d : D} {ds : List D} {s : S} : kStar i j (.tup (d :: ds)) s = if frzd (.tup (d :: ds)) = true ∧ ds.length ≤ 100000 then .ok .nx (setAll s [i, j] [d, .lst true ds]) else .stuck := (rfl)
end SV

namespace SV
open PySem PySem.Spec PyProof.Rows L2 RZ
section
variable {X : Cx}
end
def gMulT : List D → Option D
  | [.tup xs, .int j] => if frzdL xs = true ∧ xs ≠ [] ∧ -1000 ≤ j ∧ j ≤ 1000 ∧ xs.length ≤ 1000 then some (.tup (repD j.toNat xs)) else none
  | _ => none
theorem q_gMulT {xs : List D} {j : Int} (h1 : frzdL xs = true) (h2 : xs ≠ []) (h3 : -1000 ≤ j) (h4 : j ≤ 1000) (h5 : xs.length ≤ 1000) : gMulT [.tup xs, .int j] = some (.tup (repD j.toNat xs)) := by
  show (if _ then _ else _) = _
  rw [if_pos ⟨h1, h2, h3, h4, h5⟩]
end SV

namespace SV
open PySem PySem.Spec PyProof.Rows L2
def KC (C : Ct) (e : Expr) (d : D) (w : V) : Prop := (∀ σ H (Q : VK), Q w H → WE C.X e σ H Q) ∧ ∀ (H : Hp) (ω : Om) (o : List Nat → Own) (p : List Nat), Rep C.X.K H ω o p d w
def eMp1 (i : Nat) (π : List Nat) (f : List D → D → Option (List D)) (d : D) : M D := fun st => mp1O i π f d (st[i]?) st
section
variable {C : Ct} {e a : Expr} {x name : Str} {pos p2 apos cpos : Pos} {i : Nat} {π : List Nat}
theorem se_mp1 {id : String} {n : List D → Nat} {f : List D → D → Option (List D)} {d : D} {w : V} (hf : MP1 C.X id n f)
    (slot : Slot "list" name id) (hty : typeOf (.builtin id) = pure (.type "method_descriptor")) (ha : PthE C a i π) (hk : KC C e d w)
    (hbase : attributeBase a name C.X.env (eval a C.X.env) = eval a C.X.env := by rfl)
    (hfew : ((backTo cpos (starEach [e] C.X.env)).all (fun x => !x.1) && (backToKw cpos (keywordEach [] C.X.env)).all (fun x => x.1.isSome)
      && decide ([e].length + ([] : List Keyword).length + (if ([] : List Keyword).isEmpty then 0 else 1) < 30)) = true := by rfl)
    (hline : (apos.endLine == cpos.line) = true := by rfl) (hst : starEach [e] C.X.env = [(false, eval e C.X.env)] := by rfl) :
    SE C (.Call (.Attribute a name apos) [e] [] cpos) (eMp1 i π f d) := fun st σ H ω Q s p => by
  refine ⟨_, pe_bm PySem.F.plainAttrs_list slot hty mt_w pe_w (pa_wl ⟨hst, trivial⟩) hbase hfew hline hst rfl, ?_⟩
  unfold eMp1 at p
  cases q0 : st[i]? with
  | none => rw [q0] at p; exact p.elim
  | some o =>
  cases o with
  | none => rw [q0] at p; exact p.elim
  | some dd =>
  rw [q0] at p
  simp only [mp1O] at p
  cases q1 : getP dd π with
  | none => rw [q1] at p; exact p.elim
  | some e' =>
  rw [q1] at p
  cases e' with
  | lst o xs =>
    cases o with
    | false => exact p.elim
    | true =>
    simp only [mp1P] at p
    by_cases hl : lstP dd π = true
    · rw [if_pos hl] at p
      cases q2 : f xs d with
      | none => rw [q2] at p; exact p.elim
      | some ys =>
        rw [q2] at p
        simp only [mp1R] at p
        obtain ⟨v, a', vs, ev, va, hH, _, rr, c1, c2, c3⟩ := s.changeL (n := n xs) q0 q1 hl
        refine ha σ H v (.ref a') _ ev va ⟨tyV_lst hH, ?_⟩
        show WE C.X e σ H _
        refine hk.1 σ H _ ?_
        obtain ⟨vs', r1, t⟩ := hf H (plw i (π ++ [n xs]) ω) i π xs ys d w q2 a' vs hH c1 (fun vs' => hk.2 _ _ _ _)
        refine t Q ?_
        obtain ⟨sm, tr⟩ := c3 ys vs' r1
        exact p .non _ _ tr sm .non
    · rw [if_neg hl] at p; exact p.elim
  | _ => exact p.elim
end
theorem q_eMp1 {i : Nat} {π : List Nat} {f : List D → D → Option (List D)} {d : D} {st : S} : eMp1 i π f d st = mp1O i π f d (st[i]?) st := (rfl)
theorem q_mp1O {i : Nat} {π : List Nat} {f : List D → D → Option (List D)} {x d : D} {s : S} : mp1O i π f x (some (some d)) s = mp1P i π f x d (getP d π) s := (rfl)
theorem q_mp1P {i : Nat} {π : List Nat} {f : List D → D → Option (List D)} {x d : D} {xs : List D} {s : S} : mp1P i π f x d (some (.lst true xs)) s = if lstP d π = true then mp1R i d π (f xs x) s else .stuck := (rfl)
theorem q_mp1R {i : Nat} {π : List Nat} {d : D} {ys : List D} {s : S} : mp1R i d π (some ys) s = .ok .non (s.set i (some (setP d π (.lst true ys)))) := (rfl)
end SV

namespace SV
open PySem PySem.Spec PyProof.Rows L2
def permL {α : Type} (pl : List Nat) (xs : List α) : List α := pl.filterMap (xs[·]?)
def cv : D → V
  | .bl b => .bl b
  | .int i => .int i
  | .str x => .str x
  | _ => .non
def isC : D → Bool
  | .non => true
  | .bl _ => true
  | .int _ => true
  | .str _ => true
  | _ => false
section
variable {K : PySem.W.Frag} {H : Hp} {ω : Om} {σ : L2.St}
end
structure KB (K : PySem.W.Frag) (fd : FuncData) (ps : List Str) (n : Nat) (ks : List Str) (dcs : List D) (pl : List Nat) : Prop where
  c : dcs.all isC = true
  to : ∃ ds : List Value, Vals (dcs.map cv) ds ∧ ∀ (s : Shared) (us ws : List Value), K.In s.heap → us.length = n → ws.length = ks.length → BindsTo s fd ⟨us, ks.zip ws⟩ (ps.zip (permL pl (us ++ ws ++ ds)))
section
variable {X : Cx} {σ : L2.St} {H : Hp}
theorem WL.mono : ∀ {es : List Expr} {H : Hp} {Q Q' : List V → Hp → Prop}, WL X es σ H Q → (∀ vs H', Q vs H' → Q' vs H') → WL X es σ H Q'
  | [], _, _, _, h, k => k _ _ h
  | _ :: _, _, _, _, h, k => WE.mono h fun v H1 h1 => WL.mono h1 fun vs H2 q => k _ _ q
theorem WL.len : ∀ {es : List Expr} {H : Hp} {Q : List V → Hp → Prop}, WL X es σ H Q → WL X es σ H fun vs H1 => vs.length = es.length ∧ Q vs H1
  | [], _, _, h => ⟨rfl, h⟩
  | _ :: _, _, _, h => WE.mono h fun v H1 h1 => WL.mono (WL.len h1) fun vs H2 q => ⟨congrArg (· + 1) q.1, q.2⟩
theorem WL.app : ∀ {es kes : List Expr} {H : Hp} {Q : List V → Hp → Prop}, WL X (es ++ kes) σ H Q → WL X es σ H fun vs H1 => WL X kes σ H1 fun zs H2 => Q (vs ++ zs) H2
  | [], _, _, _, h => h
  | _ :: _, _, _, _, h => WE.mono h fun v H1 h1 => WL.app h1
end
section
variable {X : Cx} {W : WX} {k n : Nat} {f : Addr} {fd : FuncData} {ps ks : List Str} {sp : Sp} {dcs : List D} {pl : List Nat} {x : Str} {p pos : Pos} {e : Expr} {es : List Expr} {kws : List Keyword}
end
section
variable {C : Ct} {k n : Nat} {f : Addr} {fd : FuncData} {ps ks : List Str} {modes : List Bool} {Φ : List D → Cr} {dcs : List D} {pl : List Nat} {x : Str} {p pos : Pos} {e : Expr} {es : List Expr} {kws : List Keyword}
end
section
variable {K : PySem.W.Frag} {x qual : Str} {params : Arguments} {body : List Stmt} {scope : Scope} {kws : List (Str × V)} {f : Addr} {fd : FuncData} {ps ks : List Str} {n : Nat} {pl : List Nat}
theorem KB.all (F : FunD K x qual params body scope [] kws f fd)
    (h : ∀ (kV doc pm : Value) (an : Option Addr) (cdv ct : Value) (us ws : List Value), us.length = n → ws.length = ks.length → bindArgs (PySem.W.fnOf x qual params body scope .none kV doc pm an cdv ct) ⟨us, ks.zip ws⟩ = pure (ps.zip (permL pl (us ++ ws ++ [])))) : KB K fd ps n ks [] pl := by
  obtain ⟨oc, od, dV, kV, doc, pm, an, cdv, ct, osl, rfl, lk, hcd, hD, hK⟩ := F.ex
  rcases hD with ⟨_, rfl⟩ | ⟨e, _⟩
  · exact ⟨rfl, [], .nil, fun s us ws X l1 l2 => BindsTo.of_looks fun M => PySem.W.Looks.of_pure (h kV doc pm an cdv ct us ws l1 l2)⟩
  · exact absurd rfl e
theorem KB.dfl (F : FunD K x qual params body scope [] kws f fd) (ms : List (Str × D)) (hk : kws ≠ []) (hc : (ms.map (·.2)).all isC = true) (hms : ∀ q ∈ ms, (q.1, cv q.2) ∈ kws)
    (h : ∀ (D : Addr) (doc pm : Value) (an : Option Addr) (cdv ct : Value) (us ws mv : List Value), us.length = n → ws.length = ks.length → mv.length = ms.length →
      KwChain D ((ms.map (·.1)).zip mv) (bindArgs (PySem.W.fnOf x qual params body scope .none (.ref D) doc pm an cdv ct) ⟨us, ks.zip ws⟩) (ps.zip (permL pl (us ++ ws ++ mv)))) : KB K fd ps n ks (ms.map (·.2)) pl := by
  obtain ⟨oc, od, dV, kV, doc, pm, an, cdv, ct, osl, rfl, lk, hcd, hD, hK⟩ := F.ex
  rcases hD with ⟨_, rfl⟩ | ⟨e, _⟩
  · rcases hK with e | ⟨D, rfl, hq⟩
    · exact absurd e hk
    · obtain ⟨mv, hl, rk, hks⟩ := kwd_vals (ms := ms.map fun q => (q.1, cv q.2)) fun q hm => by
        obtain ⟨r, hr, rfl⟩ := List.mem_map.mp hm
        exact hq _ (hms r hr)
      rw [List.length_map] at hl
      rw [List.map_map] at rk
      rw [List.map_map] at hks
      refine ⟨hc, mv, by rw [List.map_map]; exact rk, fun s us ws X l1 l2 => BindsTo.of_looks fun M => KwChain.looks X hks (h D doc pm an cdv ct us ws mv l1 l2 hl)⟩
  · exact absurd rfl e
end
end SV

namespace L2
open PySem PySem.Spec PyProof.Rows
end L2
namespace SV
open PySem PySem.Spec PyProof.Rows L2
end SV

namespace SV
open PySem PySem.Spec PyProof.Rows L2
section
variable {prog : Program} {w : World} {A : Around} {E : Value → Shared → Prop} {s : Shared}
end
section
variable {C : Ct} {a eh st' : Expr} {p2 pos : Pos}
end
end SV

namespace SV
open PySem PySem.Spec PyProof.Rows L2
def fldPut {α : Type} (f : Str) (d : α) : List Str → List α → List α
  | n :: ns, v :: vs => if f = n then d :: vs else v :: fldPut f d ns vs
  | _, vs => vs
theorem Reps.fldPut {K : PySem.W.Frag} {H : Hp} {ω : Om} {τ : List Nat → Own} {f : Str} {p : List Nat} {z : Int} : ∀ {ns : List Str} {ds : List D} {vs : List V} {k : Nat}, Reps K H ω τ p k ds vs → Reps K H ω τ p k (SV.fldPut f (.int z) ns ds) (SV.fldPut f (.int z) ns vs)
  | [], _, _, _, r => r
  | n :: ns, [], _, _, r => by cases r; exact .nil
  | n :: ns, d0 :: ds, vs, k, r => by
    cases r with
    | @cons _ _ _ v _ us a b =>
      unfold SV.fldPut
      by_cases e : f = n
      · rw [if_pos e, if_pos e]; exact .cons .int b
      · rw [if_neg e, if_neg e]; exact .cons a (Reps.fldPut b)
def augF2 (i : Nat) (x : Str) (f : Str) (z : Int) (s : S) : Option D → Rs Fl
  | some (.ins true y ns vs) => (match fldV ns vs f with
    | some (.int _) => if (decide (x = y) && (decide (ns.length = vs.length) && decide (ns.length < 900))) = true then .ok .nx (s.set i (some (.ins true y ns (fldPut f (.int z) ns vs)))) else .stuck
    | _ => .stuck)
  | _ => .stuck
def kAugF (i : Nat) (x : Str) (f : Str) (a : Int) (d : D) (s : S) : Rs Fl := match d with
  | .int b => augF2 i x f (a + b) s (s[i]?).join
  | _ => .stuck
def augF (fl : List (Str × Str)) (i : Nat) (f : Str) (m : M D) (s : S) : Option D → Rs Fl
  | some (.ins true x ns vs) => (match fldV ns vs f with
    | some (.int a) => if fl.contains (x, f) = true then (m s).bind (kAugF i x f a) else .stuck
    | _ => .stuck)
  | _ => .stuck
def sAugF (fl : List (Str × Str)) (i : Nat) (f : Str) (m : M D) : M Fl := fun st => augF fl i f m st (st[i]?).join
section
variable {C : Ct} {e : Expr} {f x : Str} {pos : Pos} {xs : List Str} {fl : List (Str × Str)}
end
end SV

namespace SV
open PySem PySem.Spec PyProof.Rows L2
section
variable {X : Cx} {W : WX} {i : Nat} {x : Str} {e : Expr} {es : List Expr} {t : TA} {p pos : Pos}
end
def VT (C : Ct) (lv : Nat) : MTab → Prop
  | [] => True
  | q :: r => (∃ k fd ps, k ≤ lv ∧ Fn C k (He.ga C.X.K q.1) fd ps q.2.1 q.2.2) ∧ VT C lv r
theorem VT.at {C : Ct} {lv : Nat} {x : Str} {tab : MTab} {y : List Bool × (List D → Cr)} : VT C lv tab → tabAt x tab = some y → ∃ k fd ps, k ≤ lv ∧ Fn C k (He.ga C.X.K x) fd ps y.1 y.2 := by
  induction tab with
  | nil => intro _ h; cases h
  | cons q r ih =>
    intro hm h
    unfold tabAt at h
    by_cases e : q.1 = x
    · rw [if_pos e] at h
      cases h
      rw [← e]
      exact hm.1
    · rw [if_neg e] at h
      exact ih hm.2 h
def callV (tab : MTab) (ms : M (List Opd)) (s : S) : Option D → Rs D
  | some (.fn g) => (match tabAt g tab with
    | some y => (ms s).bind (kCall y.1 y.2)
    | none => .stuck)
  | _ => .stuck
def eCallV (tab : MTab) (i : Nat) (ms : M (List Opd)) : M D := fun st => callV tab ms st (st[i]?).join
section
variable {C : Ct} {lv : Nat} {x : Str} {p pos : Pos} {e : Expr} {es : List Expr}
end
end SV

namespace SV
open PySem PySem.Spec PyProof.Rows L2
def wayAt (z : Str) : List (Str × Str) → Option Str
  | [] => none
  | q :: r => if q.1 = z then some q.2 else wayAt z r
def kKd (tab : List (Str × Str)) (o : Opd) (s : S) : Rs D := match getO s o with
  | some (.str z) => (match wayAt z tab with
    | some g => .ok (.fn g) s
    | none => .stuck)
  | _ => .stuck
def eKd (tab : List (Str × Str)) (m : M Opd) : M D := fun st => (m st).bind (kKd tab)
section
variable {C : Ct} {x : Str} {b : Expr} {p pos : Pos}
end
end SV

namespace SV
open PySem PySem.Spec PyProof.Rows L2
abbrev AlY : Type := AlX × List (Option (List (Option (Str × Int))))
def obsY (xb : List (PySem.W.Frag → Bool)) (fa : List He.Fa) (fn : List He.DefD) (ts : List He.Tab) (K : PySem.W.Frag) : AlY := (obsX xb fa fn K, ts.map fun t => He.dicW K (t.1 K))
def valY (fn : List He.DefD) (ts : List He.Tab) (w : World) : AlY := (valX fn, ts.map fun t => some (He.keysIn w.params t.2))
def SaysY (xb : List (PySem.W.Frag → Bool)) (fa : List He.Fa) (fn : List He.DefD) (ts : List He.Tab) (w : World) (K : PySem.W.Frag) : Prop := obsY xb fa fn ts K = valY fn ts w
section
variable {xb : List (PySem.W.Frag → Bool)} {fa : List He.Fa} {fn : List He.DefD} {ts : List He.Tab} {w : World} {K : PySem.W.Frag}
theorem SaysY.d (c : SaysY xb fa fn ts w K) : He.SaysD fa fn K := congrArg (fun z : AlY => z.1.2) c
theorem SaysY.tab (c : SaysY xb fa fn ts w K) (i : Nat) {t : He.Tab} (h : ts[i]? = some t := by rfl) : ∃ es n, KDict K w (t.1 K) es n := by
  have e : ts.map (fun t => He.dicW K (t.1 K)) = ts.map fun t => some (He.keysIn w.params t.2) := congrArg (fun z : AlY => z.2) c
  have e2 : (ts.map fun t => He.dicW K (t.1 K))[i]? = (ts.map fun t => some (He.keysIn w.params t.2))[i]? := by rw [e]
  rw [List.getElem?_map, List.getElem?_map, h] at e2
  exact He.dicW_ok (Option.some.inj e2)
end
end SV

namespace SV
open PySem PySem.Spec PyProof.Rows L2 RZ
section
variable {prog : Program} {w : World} {A : Around} {E : Value → Shared → Prop} {s : Shared}
end
def kStarL (i j : Nat) (d : D) (s : S) : Rs Fl := match d with
  | .lst _ (d0 :: ds) => if frzdL (d0 :: ds) = true ∧ ds.length ≤ 100000 then .ok .nx (setAll s [i, j] [d0, .lst true ds]) else .stuck
  | _ => .stuck
def sStarL (i j : Nat) (m : M D) : M Fl := fun st => (m st).bind (kStarL i j)
theorem q_sStarL {i j : Nat} {m : M D} {st : S} : sStarL i j m st = (m st).bind (kStarL i j) := (rfl)
theorem q_kStarL {i j : Nat} {o : Bool} {d : D} {ds : List D} {s : S} : kStarL i j (.lst o (d :: ds)) s = if frzdL (d :: ds) = true ∧ ds.length ≤ 100000 then .ok .nx (setAll s [i, j] [d, .lst true ds]) else .stuck := (rfl)
section
variable {C : Ct} {e : Expr} {pos : Pos}
end
end SV

namespace SV
open PySem PySem.Spec PyProof.Rows L2
section
variable {fl : List (Str × Str)} {i : Nat} {f x y z g : Str} {m : M D} {mo : M Opd} {o : Opd} {ms : M (List Opd)} {st s : S} {ns : List Str} {vs : List D} {a b : Int} {tab : MTab} {wt : List (Str × Str)} {p : List Bool × (List D → Cr)} {d : D}
def augF1 (fl : List (Str × Str)) (i : Nat) (x f : Str) (m : M D) (s : S) : Option D → Rs Fl
  | some (.int a) => if fl.contains (x, f) = true then (m s).bind (kAugF i x f a) else .stuck
  | _ => .stuck
def augF3 (i : Nat) (y f : Str) (z : Int) (s : S) (ns : List Str) (vs : List D) : Option D → Rs Fl
  | some (.int _) => if ns.length = vs.length ∧ ns.length < 900 then .ok .nx (s.set i (some (.ins true y ns (fldPut f (.int z) ns vs)))) else .stuck
  | _ => .stuck
theorem q_sAugF : sAugF fl i f m st = augF fl i f m st (st[i]?).join := (rfl)
theorem q_augF : augF fl i f m s (some (.ins true x ns vs)) = augF1 fl i x f m s (fldV ns vs f) := by
  cases h : fldV ns vs f with
  | none => simp [augF, augF1, h]
  | some d => cases d <;> simp [augF, augF1, h]
theorem q_augF1 : augF1 fl i x f m s (some (.int a)) = if fl.contains (x, f) = true then (m s).bind (kAugF i x f a) else .stuck := (rfl)
theorem q_kAugF : kAugF i x f a (.int b) s = augF2 i x f (a + b) s (s[i]?).join := (rfl)
theorem q_augF2 : augF2 i x f a s (some (.ins true x ns vs)) = augF3 i x f a s ns vs (fldV ns vs f) := by
  cases h : fldV ns vs f with
  | none => simp [augF2, augF3, h]
  | some d => cases d <;> simp [augF2, augF3, h]
theorem q_augF3 : augF3 i x f a s ns vs (some (.int b)) = if ns.length = vs.length ∧ ns.length < 900 then .ok .nx (s.set i (some (.ins true x ns (fldPut f (.int a) ns vs)))) else .stuck := (rfl)
def callV1 (ms : M (List Opd)) (s : S) : Option (List Bool × (List D → Cr)) → Rs D
  | some y => (ms s).bind (kCall y.1 y.2)
  | none => .stuck
theorem q_eCallV : eCallV tab i ms st = callV tab ms st (st[i]?).join := (rfl)
theorem q_callV : callV tab ms s (some (.fn g)) = callV1 ms s (tabAt g tab) := by
  cases h : tabAt g tab <;> simp [callV, callV1, h]
theorem q_callV1 : callV1 ms s (some p) = (ms s).bind (kCall p.1 p.2) := (rfl)
def kdR1 (s : S) : Option Str → Rs D
  | some g => .ok (.fn g) s
  | none => .stuck
def kdR (tab : List (Str × Str)) (s : S) : Option D → Rs D
  | some (.str z) => kdR1 s (wayAt z tab)
  | _ => .stuck
theorem q_eKd : eKd wt mo st = (mo st).bind (kKd wt) := (rfl)
theorem q_kKd : kKd wt o s = kdR wt s (getO s o) := by
  cases h : getO s o with
  | none => simp [kKd, kdR, h]
  | some d => cases d with
    | str q => cases h2 : wayAt q wt <;> simp [kKd, kdR, kdR1, h, h2]
    | _ => simp [kKd, kdR, h]
theorem q_kdR : kdR wt s (some (.str z)) = kdR1 s (wayAt z wt) := (rfl)
theorem q_kdR1 : kdR1 s (some g) = .ok (.fn g) s := (rfl)
end
end SV

namespace SV
open PySem PySem.Spec PyProof.Rows L2
section
variable {C : Ct} {pos : Pos} {x : Str}
end
end SV

namespace SV
open PySem PySem.Spec PyProof.Rows L2
section
variable {C : Ct} {e : Expr} {s : Stmt}
end
end SV

namespace SV
open PySem PySem.Spec PyProof.Rows L2
def ConA (K : PySem.W.Frag) (d : D) (v : V) : Prop := ∀ H ω τ p, Rep K H ω τ p d v
inductive ConAs (K : PySem.W.Frag) : List D → List V → Prop where
  | nil : ConAs K [] []
  | cons {d ds v vs} : ConA K d v → ConAs K ds vs → ConAs K (d :: ds) (v :: vs)
structure KV (K : PySem.W.Frag) (fd : FuncData) (ps : List Str) (n : Nat) (ks : List Str) (dcs : List D) (pl : List Nat) (cs : List V) : Prop where
  c : ConAs K dcs cs
  to : ∃ ds : List Value, Vals cs ds ∧ ∀ (s : Shared) (us ws : List Value), K.In s.heap → us.length = n → ws.length = ks.length → BindsTo s fd ⟨us, ks.zip ws⟩ (ps.zip (permL pl (us ++ ws ++ ds)))
section
variable {X : Cx} {W : WX} {k n : Nat} {f : Addr} {fd : FuncData} {ps ks : List Str} {sp : Sp} {dcs : List D} {pl : List Nat} {x : Str} {p pos : Pos} {e : Expr} {es : List Expr} {kws : List Keyword} {cs : List V}
end
section
variable {C : Ct} {k n : Nat} {f : Addr} {fd : FuncData} {ps ks : List Str} {modes : List Bool} {Φ : List D → Cr} {dcs : List D} {pl : List Nat} {x : Str} {p pos : Pos} {e : Expr} {es : List Expr} {kws : List Keyword} {cs : List V}
end
section
variable {K : PySem.W.Frag} {x qual : Str} {params : Arguments} {body : List Stmt} {scope : Scope} {kws : List (Str × V)} {f : Addr} {fd : FuncData} {ps ks : List Str} {n : Nat} {pl : List Nat}
theorem KV.dfl (F : FunD K x qual params body scope [] kws f fd) (ms : List (Str × D × V)) (hk : kws ≠ []) (hc : ConAs K (ms.map (·.2.1)) (ms.map (·.2.2))) (hms : ∀ q ∈ ms, (q.1, q.2.2) ∈ kws)
    (h : ∀ (D : Addr) (doc pm : Value) (an : Option Addr) (cdv ct : Value) (us ws mv : List Value), us.length = n → ws.length = ks.length → mv.length = ms.length →
      KwChain D ((ms.map (·.1)).zip mv) (bindArgs (PySem.W.fnOf x qual params body scope .none (.ref D) doc pm an cdv ct) ⟨us, ks.zip ws⟩) (ps.zip (permL pl (us ++ ws ++ mv)))) : KV K fd ps n ks (ms.map (·.2.1)) pl (ms.map (·.2.2)) := by
  obtain ⟨oc, od, dV, kV, doc, pm, an, cdv, ct, osl, rfl, lk, hcd, hD, hK⟩ := F.ex
  rcases hD with ⟨_, rfl⟩ | ⟨e, _⟩
  · rcases hK with e | ⟨D, rfl, hq⟩
    · exact absurd e hk
    · obtain ⟨mv, hl, rk, hks⟩ := kwd_vals (ms := ms.map fun q => (q.1, q.2.2)) fun q hm => by
        obtain ⟨r, hr, rfl⟩ := List.mem_map.mp hm
        exact hq _ (hms r hr)
      rw [List.length_map] at hl
      rw [List.map_map] at rk
      rw [List.map_map] at hks
      refine ⟨hc, mv, rk, fun s us ws X l1 l2 => BindsTo.of_looks fun M => KwChain.looks X hks (h D doc pm an cdv ct us ws mv l1 l2 hl)⟩
  · exact absurd rfl e
end
end SV

namespace PySem
namespace SVX
open Sem (wp)
section
variable {M : Model} {A : Around} {E : Value → Shared → Prop} {s : Shared} {env : Env}
variable {outer : List Env} {e L : Addr} {Z : Obj → Prop} {base : Heap}
end
end SVX
end PySem
namespace L2
open PySem PySem.Spec PyProof.Rows
section
variable {X : Cx} {pins : List (Addr × Obj)} {σ : St} {s3 : Shared} {H3 : Hp} {W : WX} {fp : List Addr} {scope : Scope} {cl : List (Str × Addr)}
end
section
variable {X : Cx}
end
end L2

namespace SV
open PySem PySem.Spec PyProof.Rows L2
def lcX (vs fre : List Nat) (g : D → S → Option S) (t : M Bool) (m : M D) : List D → S → Rs (List D)
  | [], st => .ok [] st
  | y :: ys, st => match g y st with
    | none => .stuck
    | some s => match t s with
      | .ok true s1 => (match m s1 with
        | .ok d s2 => (lcX vs fre g t m ys (wipeS s2 vs)).map (d :: ·)
        | .exc x w s2 => if s2.length = s1.length then .exc x w (wipeS s2 fre) else .stuck
        | .stuck => .stuck)
      | .ok false s1 => lcX vs fre g t m ys (wipeS s1 vs)
      | _ => .stuck
def eLcX (vs fre : List Nat) (g : D → S → Option S) (i : M (List D)) (t : M Bool) (m : M D) : M D := fun st => (i st).bind fun ys s => if ys.length ≤ 100000 then (lcX vs fre g t m ys (wipeS s vs)).bind fun ds s' => .ok (.lst true ds) s' else .stuck
section
variable {C : Ct} {elt tg iter e : Expr} {ifs : List Expr} {scope : Scope} {own : List (Str × Nat)} {pos : Pos} {H H1 H2 : Hp} {ω ω1 ω2 : Om} {σ : L2.St} {lv : Nat}
end
end SV

namespace SV
open PySem PySem.Spec PyProof.Rows L2
section
variable {vs fre : List Nat} {g : D → S → Option S} {t : M Bool} {st s : S} {E : Ex}
def kLcX (vs fre : List Nat) (g : D → S → Option S) (t : M Bool) (n : M D) (ys : List D) (s : S) : Rs D := if ys.length ≤ 100000 then (lcX vs fre g t n ys (wipeS s vs)).bind kLcE else .stuck
theorem q_eLcX {m : M (List D)} {n : M D} : eLcX vs fre g m t n st = (m st).bind (kLcX vs fre g t n) := (rfl)
theorem q_kLcX {n : M D} {ys : List D} : kLcX vs fre g t n ys s = if ys.length ≤ 100000 then (lcX vs fre g t n ys (wipeS s vs)).bind kLcE else .stuck := (rfl)
end
end SV

namespace L2
open PySem PySem.Spec PyProof.Rows
end L2
namespace SV
open PySem PySem.Spec PyProof.Rows L2
end SV

namespace SV
open PySem PySem.HandSPX
section
variable {M : Model} {A : Around} {E : Value → Shared → Prop} {h : Heap} {g : Array GenState} {d : Drawn} {t : Nat} {os : OsState}
variable {nm q : Str} {C N : Addr} {bs bm bmB : List Value} {hdct : Bool} {sn : List Str} {sub : List Value} {ab : Bool} {col : Option Bool} {dd : Option Addr} {k0 k1 k2 k3 k5 : Option Value} {B newId initId : String}
end
section
variable {prog : Program} {w : World} {A : Around} {E : Value → Shared → Prop} {R : Result → Shared → Prop} {h : Heap} {g : Array GenState} {d : Drawn} {t : Nat} {os : OsState}
variable {nm q : Str} {C N : Addr} {bs bm bmB : List Value} {hdct : Bool} {sn : List Str} {sub : List Value} {ab : Bool} {col : Option Bool} {dd : Option Addr} {k0 k1 k2 k3 k5 : Option Value} {B newId initId : String}
end

end SV
namespace SV
open PySem PySem.Spec PyProof.Rows L2 RZ
section
variable {X : Cx} {e : Expr} {p pos : Pos}
end

section
variable {C : Ct} {e : Expr} {pos p : Pos} {x : Str} {xs : List Str} {lv : Nat}
end
end SV

namespace SV
open PySem PySem.Spec PyProof.Rows L2 RZ
def kTryR (xs : List Str) (c : Str) (b : Bool) : Rs Fl → Rs Fl
  | .ok f s => .ok f s
  | .exc x w s => if (xs.contains x && xs.contains c) = true then (if isa x c = true then .ok (.rt (.bl b)) s else .exc x w s) else .stuck
  | .stuck => .stuck
def sTryR (xs : List Str) (c : Str) (b : Bool) (m : M Fl) : M Fl := fun st => kTryR xs c b (m st)
section
variable {C : Ct} {e a : Expr} {es : List Expr} {pos p : Pos} {x : Str} {xs : List Str} {lv : Nat}
end
def eSpl (ys : List Str) : M D := fun st => .ok (.lst true (ys.map D.str)) st
section
variable {xs : List Str} {c x : Str} {b : Bool} {m : M Fl} {st s : S} {w : D} {E : Str → D → S → Prop} {Q : Fl → S → Prop}
theorem q_sTryR : sTryR xs c b m st = kTryR xs c b (m st) := (rfl)
theorem q_kTryRO {f : Fl} : kTryR xs c b (.ok f s) = .ok f s := (rfl)
theorem q_kTryRX : kTryR xs c b (.exc x w s) = if (xs.contains x && xs.contains c) = true then (if isa x c = true then .ok (.rt (.bl b)) s else .exc x w s) else .stuck := (rfl)
@[irreducible] def tryRE (E : Ex) (xs : List Str) (c : Str) (b : Bool) (Q : Fl → S → Prop) : Ex := fun x w s => Wx E (kTryR xs c b (.exc x w s)) Q
theorem q_tryRE {E : Ex} : tryRE E xs c b Q x w s = Wx E (kTryR xs c b (.exc x w s)) Q := by unfold tryRE; rfl
theorem Wx_kTryR {E : Ex} {r : Rs Fl} : Wx E (kTryR xs c b r) Q = Wx (tryRE E xs c b Q) r Q := by
  cases r with
  | ok f s => rw [q_kTryRO, Wx_ok, Wx_ok]
  | exc x w s => rw [Wx_exc, q_tryRE]
  | stuck => rw [Wx_stuck]; exact Wx_stuck
theorem q_eSpl {ys : List Str} : eSpl ys st = .ok (.lst true (ys.map D.str)) st := (rfl)
end
end SV

namespace SV
open PySem PySem.Spec PyProof.Rows L2 RZ
abbrev IsZipH (h : Heap) (z TI TO T : Addr) (f : Bool) : Prop :=
  h.get? z = some { cls := .type "zip", dict := none, data := .fields #[rawInt T, .bool f, .bool true, .ref TI, .ref TO], slots := #[] }
section
variable {prog : Program} {w : World} {A : Around} {E : Value → Shared → Prop} {s : Shared}
theorem tupleHeldS {z TI TO T : Addr} {f : Bool} {oT : Obj} {Q : Bool → Shared → Prop} (hz : IsZipH s.heap z TI TO T f) (hT : s.heap.get? T = some oT)
    (h : ∀ h', IsZipH h' z TI TO T true → Heap.SameBut z s.heap h' → Q false { s with heap := h' }) : wpAny (model prog w) A (Builtin.SmallTypes.ownedTupleIsFree (.ref z)) Q E s := by
  unfold Builtin.SmallTypes.ownedTupleIsFree
  refine wpAny_bind (wpAny_field hz rfl (x := rawInt T) rfl ?_)
  show wpAny _ _ (loadIfAlive ((T : Int).toNat) >>= _) _ _ _
  rw [Int.toNat_natCast]
  refine wpAny_bind (PySem.W.kdx_alive hT ?_)
  simp only [Option.isNone_some, Bool.false_eq_true, if_false]
  refine wpAny_bind (wpAny_field hz rfl (x := .bool f) rfl ?_)
  cases f with
  | true =>
    rw [if_neg (show ¬ ((Value.bool true != Value.bool true) = true) from Bool.false_ne_true)]
    exact wpAny_pure (h s.heap hz (Heap.SameBut.refl _ _))
  | false =>
    rw [if_pos (show (Value.bool false != Value.bool true) = true from rfl)]
    exact wpAny_bind (wpAny_setField_rec hz (by simp) fun h₁ hz₁ hs₁ => wpAny_pure (h h₁ hz₁ hs₁))
theorem zipS_nextH {ta tb : Bool} {z TI TO T i1 i2 l1 l2 : Addr} {f : Bool} {oT : Obj} {k : Nat} {xs ys : Array Value} {x y : Value} {Q : Value → Shared → Prop} (D : ZipApart z TI TO i1 i2 l1 l2)
    (hz : IsZipH s.heap z TI TO T f) (hT : s.heap.get? T = some oT) (hTI : IsPair s.heap TI (.ref i1) (.ref i2))
    (h1 : SqI ta s.heap i1 l1 k) (h2 : SqI tb s.heap i2 l2 k) (hl1 : SqO ta s.heap l1 xs) (hl2 : SqO tb s.heap l2 ys) (hx : xs[k]? = some x) (hy : ys[k]? = some y)
    (q : ∀ h', IsZipH h' z TI TO T true → SqI ta h' i1 l1 (k + 1) → SqI tb h' i2 l2 (k + 1) → IsPair h' s.heap.objs.size x y → h'.objs.size = s.heap.objs.size + 1 →
      (∀ c o, c ≠ z → c ≠ i1 → c ≠ i2 → s.heap.get? c = some o → h'.get? c = some o) → Q (.ref s.heap.objs.size) { s with heap := h' }) :
    wpAny (model prog w) A (Builtin.«zip.__next__» ⟨[.ref z], []⟩) (fun fin s' => ∃ v, fin = .done (.ret v) ∧ Q v s') E s := by
  show wpAny _ _ (field (.ref z) 2 >>= _) _ _ _
  refine wpAny_bind (wpAny_field hz rfl (x := .bool true) rfl ?_)
  show wpAny _ _ (field (.ref z) 3 >>= _) _ _ _
  refine wpAny_bind (wpAny_field hz rfl (x := .ref TI) rfl ?_)
  refine wpAny_bind (wpAny_seqItems hTI rfl ?_)
  show wpAny _ _ (Builtin.SmallTypes.ownedTupleIsFree (.ref z) >>= _) _ _ _
  refine wpAny_bind (tupleHeldS hz hT fun g1 z1 s1 => ?_)
  simp only [Bool.false_eq_true, if_false]
  refine wpAny_bind ?_
  rw [← Array.forIn_toList]
  simp only [List.forIn_cons, List.forIn_nil]
  refine wpAny_bind (wpAny_bind (wpAny_holding ?_))
  show wpAny _ _ (Builtin.SmallTypes.nextOrEnd (.ref i1)) _ _ _
  refine draw_item (h1.on fun o e => s1.extBut _ _ D.i1z e) (hl1.on fun o e => s1.extBut _ _ D.l1z e) hx fun g2 a2 s2 => ?_
  refine wpAny_pure ?_
  refine wpAny_bind (wpAny_bind (wpAny_holding ?_))
  show wpAny _ _ (Builtin.SmallTypes.nextOrEnd (.ref i2)) _ _ _
  refine draw_item (h2.on fun o e => s2.extBut _ _ D.i12.symm (s1.extBut _ _ D.i2z e)) (hl2.on fun o e => s2.extBut _ _ D.l2i1 (s1.extBut _ _ D.l2z e)) hy fun g3 a3 s3 => ?_
  refine wpAny_pure (wpAny_pure ?_)
  show wpAny _ _ (newTuple [x, y] >>= _) _ _ _
  refine wpAny_bind (wpAny_newTuple ?_)
  have hsz : g3.objs.size = s.heap.objs.size := by rw [s3.1, s2.1, s1.1]
  have hz3 : IsZipH g3 z TI TO T true := s3.extBut _ _ D.i2z.symm (s2.extBut _ _ D.i1z.symm z1)
  have hk : ∀ c o, c ≠ z → c ≠ i1 → c ≠ i2 → s.heap.get? c = some o → g3.get? c = some o := fun c o c1 c2 c3 e => s3.extBut _ _ c3 (s2.extBut _ _ c2 (s1.extBut _ _ c1 e))
  have b1 : SqI ta g3 i1 l1 (k + 1) := a2.on fun o e => s3.extBut _ _ D.i12 e
  refine wpAny_pure ⟨_, rfl, ?_⟩
  show Q (.ref g3.objs.size) _
  have hp : IsPair (g3.push { cls := .type "tuple", data := .seq #[x, y] }) g3.objs.size x y := Heap.get?_push_size _ rfl
  have hz4 : (g3.push { cls := .type "tuple", data := .seq #[x, y] }).objs.size = g3.objs.size + 1 := Heap.size_push ..
  rw [hsz] at hp hz4 ⊢
  exact q _ (Heap.get?_push_of_some _ hz3) (b1.on fun o e => Heap.get?_push_of_some _ e) (a3.on fun o e => Heap.get?_push_of_some _ e) hp hz4 fun c o c1 c2 c3 e => Heap.get?_push_of_some _ (hk c o c1 c2 c3 e)
theorem zipS_endH {ta tb : Bool} {z TI TO T i1 i2 l1 l2 : Addr} {f : Bool} {oT : Obj} {k : Nat} {xs ys : Array Value} {Q : PySem.Fin → Shared → Prop} (hh : A.handled = none) (D : ZipApart z TI TO i1 i2 l1 l2)
    (hz : IsZipH s.heap z TI TO T f) (hT : s.heap.get? T = some oT) (hTI : IsPair s.heap TI (.ref i1) (.ref i2))
    (h1 : SqI ta s.heap i1 l1 k) (h2 : SqI tb s.heap i2 l2 k) (hl1 : SqO ta s.heap l1 xs) (hl2 : SqO tb s.heap l2 ys) (hx : xs[k]? = none) (hy : ys[k]? = none)
    (q : ∀ h' e, (∀ c o, c ≠ z → c ≠ i1 → c ≠ i2 → s.heap.get? c = some o → h'.get? c = some o) → (∃ o, h'.get? e = some o ∧ o.cls = .type "StopIteration") → E (.ref e) { s with heap := h' }) :
    wpAny (model prog w) A (Builtin.«zip.__next__» ⟨[.ref z], []⟩) Q E s := by
  show wpAny _ _ (field (.ref z) 2 >>= _) _ _ _
  refine wpAny_bind (wpAny_field hz rfl (x := .bool true) rfl ?_)
  show wpAny _ _ (field (.ref z) 3 >>= _) _ _ _
  refine wpAny_bind (wpAny_field hz rfl (x := .ref TI) rfl ?_)
  refine wpAny_bind (wpAny_seqItems hTI rfl ?_)
  show wpAny _ _ (Builtin.SmallTypes.ownedTupleIsFree (.ref z) >>= _) _ _ _
  refine wpAny_bind (tupleHeldS hz hT fun g1 z1 s1 => ?_)
  simp only [Bool.false_eq_true, if_false]
  refine wpAny_bind ?_
  rw [← Array.forIn_toList]
  simp only [List.forIn_cons, List.forIn_nil]
  refine wpAny_bind (wpAny_bind (wpAny_holding ?_))
  show wpAny _ _ (Builtin.SmallTypes.nextOrEnd (.ref i1)) _ _ _
  refine draw_end hh (h1.on fun o e => s1.extBut _ _ D.i1z e) (hl1.on fun o e => s1.extBut _ _ D.l1z e) hx fun g2 s2 => ?_
  have fin : ∀ (h' : Heap), (∀ c o, c ≠ z → c ≠ i1 → c ≠ i2 → s.heap.get? c = some o → h'.get? c = some o) → ∀ (B : PySem.Fin → Shared → Prop), wpAny (model prog w) A (Builtin.SmallTypes.stopIteration (α := PySem.Fin)) B E { s with heap := h' } := fun h' hk B => by
    unfold Builtin.SmallTypes.stopIteration
    show wpAny _ _ (newExc (.type "StopIteration") [] >>= _) _ _ _
    refine wpAny_bind ?_
    simp only [newExc, newTuple]
    refine wpAny_bind (wpAny_newObj_type ?_ (by size_fits))
    refine wpAny_bind (m := firstArgMember _ _) (wpAny_of_eq (a := Value.none) (by first | rfl | (simp only [firstArgMember]; rfl)) ?_)
    refine wpAny_newObj_type ?_ (by size_fits)
    simp only [raiseNew]
    refine wpAny_bind (wpAny_handled ?_)
    rw [hh]
    refine wpAny_bind (wpAny_pure (wpAny_throw ?_))
    exact q _ _ (fun c o n1 n3 n4 e => Heap.get?_push_of_some _ (Heap.get?_push_of_some _ (hk c o n1 n3 n4 e))) ⟨_, Heap.get?_push_size _ rfl, rfl⟩
  have hk3 : ∀ c o, c ≠ z → c ≠ i1 → c ≠ i2 → s.heap.get? c = some o → g2.get? c = some o := fun c o n1 n3 n4 e => s2 _ _ n3 (s1.extBut _ _ n1 e)
  refine wpAny_bind (wpAny_mono (Q := fun _ _ => False) ?_ (fun _ _ z => z.elim) fun _ _ z => z)
  refine wpAny_bind (Q := fun _ _ => False) (m := forIn ((List.drop 1 [Value.ref i1, Value.ref i2]).zipIdx 1) PUnit.unit _) ?_
  simp only [List.drop_succ_cons, List.drop_zero, List.zipIdx_cons, List.zipIdx_nil, List.forIn_cons, List.forIn_nil]
  refine wpAny_bind (wpAny_bind (draw_end hh (h2.on fun o e => s2 _ _ D.i12.symm (s1.extBut _ _ D.i2z e)) (hl2.on fun o e => s2 _ _ D.l2i1 (s1.extBut _ _ D.l2z e)) hy fun g4 s4 => ?_))
  refine wpAny_pure ?_
  refine wpAny_pure ?_
  refine wpAny_bind (wpAny_rule ?_)
  exact fin g4 (fun c o n1 n3 n4 e => s4 _ _ n4 (hk3 c o n1 n3 n4 e)) _
end

structure ZSt (ta tb : Bool) (z TI TO i1 i2 l1 l2 S lo : Addr) (xs ys : Array Value) (i : Nat) (as : List Addr) (h : Heap) : Prop where
  st : (i = 0 ∧ IsZipS h z TI TO .none ∧ ∃ a b, IsPair h TO a b) ∨ ∃ T f oT, IsZipH h z TI TO T f ∧ h.get? T = some oT ∧ lo < T
  ti : IsPair h TI (.ref i1) (.ref i2)
  q1 : SqI ta h i1 l1 i
  q2 : SqI tb h i2 l2 i
  o1 : SqO ta h l1 xs
  o2 : SqO tb h l2 ys
  len : as.length = i
  rise : as.Pairwise (· < ·)
  above : ∀ a ∈ as, lo < a
  pairs : ∀ (j : Nat) (a : Addr), as[j]? = some a → ∃ x y, xs[j]? = some x ∧ ys[j]? = some y ∧ IsPair h a x y
  big : lo < h.objs.size
section
variable {prog : Program} {w : World} {A : Around} {E : Value → Shared → Prop} {s : Shared}
variable {ta tb : Bool} {z TI TO i1 i2 l1 l2 S lo : Addr} {xs ys : Array Value} {i : Nat} {as : List Addr}
theorem ZSt.keep {h h' : Heap} (x : ZSt ta tb z TI TO i1 i2 l1 l2 S lo xs ys i as h) (hk : ∀ b o, b ≠ S → h.get? b = some o → h'.get? b = some o) (hS : S ≤ lo) (n : z ≠ S ∧ TI ≠ S ∧ TO ≠ S ∧ i1 ≠ S ∧ i2 ≠ S ∧ l1 ≠ S ∧ l2 ≠ S) (hb : lo < h'.objs.size) : ZSt ta tb z TI TO i1 i2 l1 l2 S lo xs ys i as h' := by
  obtain ⟨n1, n2, n3, n4, n5, n6, n7⟩ := n
  refine ⟨?_, hk _ _ n2 x.ti, x.q1.on fun o e => hk _ o n4 e, x.q2.on fun o e => hk _ o n5 e, x.o1.on fun o e => hk _ o n6 e, x.o2.on fun o e => hk _ o n7 e, x.len, x.rise, x.above, fun j a hj => ?_, hb⟩
  · rcases x.st with ⟨e, hz, a, b, ht⟩ | ⟨T, f, oT, hz, ht, hl⟩
    · exact .inl ⟨e, hk _ _ n1 hz, a, b, hk _ _ n3 ht⟩
    · exact .inr ⟨T, f, oT, hk _ _ n1 hz, hk _ _ (fun q => by rw [q] at hl; exact absurd hl (Nat.not_lt.mpr hS)) ht, hl⟩
  · obtain ⟨u, v, e1, e2, e3⟩ := x.pairs j a hj
    have := x.above a (List.mem_of_getElem? hj)
    exact ⟨u, v, e1, e2, hk _ _ (fun q => by rw [q] at this; exact absurd this (Nat.not_lt.mpr hS)) e3⟩
theorem ZSt.next {Q : Option Value → Shared → Prop} (D : ZipApart z TI TO i1 i2 l1 l2) (hb : z ≤ lo ∧ TO ≤ lo ∧ i1 ≤ lo ∧ i2 ≤ lo) (X : ZSt ta tb z TI TO i1 i2 l1 l2 S lo xs ys i as s.heap) (hi : i < xs.size) (hl : xs.size = ys.size)
    (q : ∀ h', ZSt ta tb z TI TO i1 i2 l1 l2 S lo xs ys (i + 1) (as ++ [s.heap.objs.size]) h' → (∀ c o, c ≠ z → c ≠ TO → c ≠ i1 → c ≠ i2 → s.heap.get? c = some o → h'.get? c = some o) → Q (some (.ref s.heap.objs.size)) { s with heap := h' }) :
    wpAny (model prog w) A (pyNext (.ref z)) Q E s := by
  obtain ⟨x, hx⟩ : ∃ x, xs[i]? = some x := ⟨_, Array.getElem?_eq_getElem hi⟩
  obtain ⟨y, hy⟩ : ∃ y, ys[i]? = some y := ⟨_, Array.getElem?_eq_getElem (hl ▸ hi)⟩
  obtain ⟨b1, b2, b3, b4⟩ := hb
  have fin : ∀ h', (∀ c o, c ≠ z → c ≠ TO → c ≠ i1 → c ≠ i2 → s.heap.get? c = some o → h'.get? c = some o) → IsPair h' s.heap.objs.size x y → h'.objs.size = s.heap.objs.size + 1 → SqI ta h' i1 l1 (i + 1) → SqI tb h' i2 l2 (i + 1) →
      (∃ T f oT, IsZipH h' z TI TO T f ∧ h'.get? T = some oT ∧ lo < T) → ZSt ta tb z TI TO i1 i2 l1 l2 S lo xs ys (i + 1) (as ++ [s.heap.objs.size]) h' := fun h' hk hp hsz c1 c2 hT => by
    have far : ∀ {c : Addr}, lo < c → c ≠ z ∧ c ≠ TO ∧ c ≠ i1 ∧ c ≠ i2 := fun {c} hc => ⟨fun q => absurd hc (Nat.not_lt.mpr (q ▸ b1)), fun q => absurd hc (Nat.not_lt.mpr (q ▸ b2)), fun q => absurd hc (Nat.not_lt.mpr (q ▸ b3)), fun q => absurd hc (Nat.not_lt.mpr (q ▸ b4))⟩
    refine ⟨.inr hT, hk _ _ D.TIz D.TITO D.TIi1 D.TIi2 X.ti, c1, c2, X.o1.on fun o e => hk _ o D.l1z D.l1TO D.l1i1 D.l1i2 e, X.o2.on fun o e => hk _ o D.l2z D.l2TO D.l2i1 D.l2i2 e, by rw [List.length_append, X.len]; rfl, ?_, ?_, ?_, by rw [hsz]; exact Nat.lt_succ_of_lt X.big⟩
    · refine List.pairwise_append.mpr ⟨X.rise, List.pairwise_singleton _ _, fun a ha b hb => ?_⟩
      rw [List.mem_singleton.mp hb]
      obtain ⟨j, hj⟩ := List.mem_iff_getElem?.mp ha
      obtain ⟨_, _, _, _, e⟩ := X.pairs j a hj
      exact Heap.lt_size e
    · intro a ha
      rcases List.mem_append.mp ha with ha | ha
      · exact X.above a ha
      · rw [List.mem_singleton.mp ha]; exact X.big
    · intro j b hj
      rcases Nat.lt_trichotomy j as.length with h1 | h1 | h1
      · rw [List.getElem?_append_left h1] at hj
        obtain ⟨u, v, e1, e2, e3⟩ := X.pairs j b hj
        obtain ⟨f1, f2, f3, f4⟩ := far (X.above b (List.mem_of_getElem? hj))
        exact ⟨u, v, e1, e2, hk b _ f1 f2 f3 f4 e3⟩
      · subst h1
        have hb : s.heap.objs.size = b := by simpa using hj
        subst hb
        exact ⟨x, y, by rw [X.len]; exact hx, by rw [X.len]; exact hy, hp⟩
      · have hnone : (as ++ [s.heap.objs.size])[j]? = none := List.getElem?_eq_none (by rw [List.length_append, List.length_singleton]; omega)
        rw [hnone] at hj; cases hj
  rcases X.st with ⟨_, hz, a, b, ht⟩ | ⟨T, f, oT, hz, ht, hlo⟩
  · refine zipS_pyNext D hz X.ti ht X.q1 X.q2 X.o1 X.o2 hx hy fun h' a1 a2 a3 a4 a5 a6 a7 => q h' (fin h' a7 a5 a6 a3 a4 ⟨s.heap.objs.size, false, _, a1, a5, X.big⟩) a7
  · have hTy : s.TypeIs (.ref z) "zip" := ⟨_, hz, rfl⟩
    unfold pyNext
    refine wpAny_bind (wpAny_attempt (wpAny_callSpecial?_slot (name := Str.ofString "__next__") hTy F.slot_zip_next
      (wpAny_call_entry F.slot_zip_next hTy F.entry_zip_next
        (zipS_nextH D hz ht X.ti X.q1 X.q2 X.o1 X.o2 hx hy fun h' a1 a3 a4 a5 a6 a7 => wpAny_pure (q h' (fin h' (fun c o n1 n2 n3 n4 e => a7 c o n1 n3 n4 e) a5 a6 a3 a4 ⟨T, true, oT, a1, a7 _ _ ?_ ?_ ?_ ht, hlo⟩) (fun c o n1 n2 n3 n4 e => a7 c o n1 n3 n4 e))) (F.args_zip_next_1 _))))
    · exact fun q => absurd hlo (Nat.not_lt.mpr (q ▸ b1))
    · exact fun q => absurd hlo (Nat.not_lt.mpr (q ▸ b3))
    · exact fun q => absurd hlo (Nat.not_lt.mpr (q ▸ b4))
theorem ZSt.done {Q : Option Value → Shared → Prop} (hh : A.handled = none) (D : ZipApart z TI TO i1 i2 l1 l2) (X : ZSt ta tb z TI TO i1 i2 l1 l2 S lo xs ys i as s.heap) (hi : xs.size ≤ i) (hl : xs.size = ys.size)
    (q : ∀ h', (∀ c o, c ≠ z → c ≠ TO → c ≠ i1 → c ≠ i2 → s.heap.get? c = some o → h'.get? c = some o) → Q none { s with heap := h' }) : wpAny (model prog w) A (pyNext (.ref z)) Q E s := by
  have hx : xs[i]? = none := Array.getElem?_eq_none hi
  have hy : ys[i]? = none := Array.getElem?_eq_none (hl ▸ hi)
  rcases X.st with ⟨_, hz, a, b, ht⟩ | ⟨T, f, oT, hz, ht, hlo⟩
  · exact zipS_pyEnd hh D hz X.ti ht X.q1 X.q2 X.o1 X.o2 hx hy q
  · have hTy : s.TypeIs (.ref z) "zip" := ⟨_, hz, rfl⟩
    unfold pyNext
    refine wpAny_bind (wpAny_attempt (wpAny_callSpecial?_slot (name := Str.ofString "__next__") hTy F.slot_zip_next
      (wpAny_call_entry F.slot_zip_next hTy F.entry_zip_next (zipS_endH hh D hz ht X.ti X.q1 X.q2 X.o1 X.o2 hx hy fun h' e hk he => ?_) (F.args_zip_next_1 _))))
    obtain ⟨o, ho, hc⟩ := he
    refine wpAny_bind (wpAny_isInstance (T := "StopIteration") (b := true) ⟨o, ho, hc⟩ isSubtype_stop ?_)
    exact wpAny_pure (q _ fun c o n1 n2 n3 n4 e => hk c o n1 n3 n4 e)
end

section
variable {prog : Program} {w : World} {A : Around} {E : Value → Shared → Prop} {s : Shared} {R : Result → Shared → Prop}
variable {ta tb : Bool} {z TI TO i1 i2 l1 l2 S lo : Addr} {xs ys : Array Value}
end
end SV

namespace SV
open PySem PySem.Spec PyProof.Rows L2 RZ
section
variable {X : Cx}
end

section
variable {C : Ct} {a b : Expr} {H H1 : Hp} {ω ω1 : Om}
def lzR (oa ob : Opd) (x y : Option D) (s : S) : Rs D := match x, y with
  | some d, some d1 => if okO oa d = true ∧ okO ob d1 = true then (match zipSD (frz d) (frz d1) with
    | some zs => if zs.length ≤ 100000 then .ok (.lst true zs) s else .stuck
    | none => .stuck) else .stuck
  | _, _ => .stuck
def kLZ (os : List Opd) (s : S) : Rs D := match os with
  | [oa, ob] => lzR oa ob (getO s oa) (getO s ob) s
  | _ => .stuck
def eLZ (ma mb : M Opd) : M D := fun st => (aCons ma (aCons mb aNil) st).bind kLZ
end

section
variable {ma mb : M Opd} {oa ob : Opd} {d e : D} {st s : S}
theorem q_eLZ : eLZ ma mb st = (aCons ma (aCons mb aNil) st).bind kLZ := (rfl)
theorem q_kLZ : kLZ [oa, ob] s = lzR oa ob (getO s oa) (getO s ob) s := (rfl)
def lzS (o : Option (List D)) (s : S) : Rs D := match o with
  | some zs => if zs.length ≤ 100000 then .ok (.lst true zs) s else .stuck
  | none => .stuck
theorem q_lzR : lzR oa ob (some d) (some e) s = if okO oa d = true ∧ okO ob e = true then lzS (zipSD (frz d) (frz e)) s else .stuck := (rfl)
theorem q_lzS {zs : List D} : lzS (some zs) s = if zs.length ≤ 100000 then .ok (.lst true zs) s else .stuck := (rfl)
end
end SV

namespace SV
open PySem PySem.Spec PyProof.Rows L2
def odds {α : Type} : List α → List α
  | [] => []
  | [_] => []
  | _ :: y :: t => y :: odds t
def gOdd (ds : List D) : Option D := match ds with
  | [.lst _ xs, .int j, .int i] => if frzdL xs = true ∧ j = 1 ∧ i = 2 then some (.lst true (odds xs)) else none
  | [.ro xs, .int j, .int i] => if frzdL xs = true ∧ j = 1 ∧ i = 2 then some (.lst true (odds xs)) else none
  | _ => none
theorem q_gOddL {o : Bool} {xs : List D} (h : frzdL xs = true) : gOdd [.lst o xs, .int 1, .int 2] = some (.lst true (odds xs)) := by show (if _ then _ else _) = _; rw [if_pos ⟨h, rfl, rfl⟩]
theorem q_gOddR {xs : List D} (h : frzdL xs = true) : gOdd [.ro xs, .int 1, .int 2] = some (.lst true (odds xs)) := by show (if _ then _ else _) = _; rw [if_pos ⟨h, rfl, rfl⟩]
section
variable {C : Ct} {a eh st' : Expr} {p2 pos : Pos}
end
end SV

namespace SV
open PySem PySem.Spec PyProof.Rows L2
section
variable {X : Cx} {W : WX} {k : Nat} {f : Addr} {fd : FuncData} {ps : List Str} {sp : Sp} {dvs : List V} {ds : List Value} {x : Str} {p pos : Pos}
end
section
variable {C : Ct} {k lv : Nat} {f : Addr} {fd : FuncData} {ps : List Str} {modes : List Bool} {Φ : List D → Cr} {x : Str} {p pos : Pos}
end
end SV

namespace SV
open PySem PySem.Spec PyProof.Rows L2 RZ
end SV

namespace SV
open PySem PySem.Spec PyProof.Rows L2
section
variable {C : Ct} {a b b2 c e : Expr} {pos : Pos} {x : Str} {H H1 H2 : Hp} {ω ω1 ω2 : Om} {σ : L2.St} {st s1 s2 : S}
def sub1 (i : Nat) (mk : M Opd) (d : D) (kont : S → Rs Fl) (s : S) : Rs Fl := match s[i]? with
  | some (some _) => (mk s).bind fun o s' => (match getO s' o with
    | some k => (match setIx s' i k d with
      | some s2 => kont s2
      | none => .stuck)
    | none => .stuck)
  | _ => .stuck
def sSwap (i : Nat) (mk mk2 : M Opd) (m : M D) : M Fl := fun st => (m st).bind fun d s => match d with
  | .tup [d1, d2] => if frzd d1 = true ∧ frzd d2 = true then sub1 i mk d1 (fun s2 => sub1 i mk2 d2 (fun s3 => .ok .nx s3) s2) s else .stuck
  | _ => .stuck
theorem sub1_run {i : Nat} {mk : M Opd} {N : Ends} {d : D} {v : V} {τ : List Nat → Own} {q : List Nat} {kont : S → Rs Fl} {T : L2.St → Hp → Prop} (hk : SO C b mk) (fd : frzd d = true) (t1 : Tr H ω H1 ω1) (sm1 : C.Sim s1 σ H1 ω1) (r1 : Rep C.X.K H1 ω1 τ q d v) (p : PostS C H ω N (sub1 i mk d kont s1))
    (go : ∀ s3 H3 ω3, Tr H ω H3 ω3 → C.Sim s3 σ H3 ω3 → TT0 H1 H3 → (∀ a u, H1 a = some u → ω1 a = none → H3 a = some u ∧ ω3 a = none) → PostS C H ω N (kont s3) → T σ H3) :
    ∃ v0, σ[i]? = some (some v0) ∧ WE C.X b σ H1 (fun w H2 => L2.rSetL v0 w v H2 fun H3 => T σ H3) := by
  unfold sub1 at p
  split at p
  · rename_i d0 q0
    obtain ⟨v0, e0, r0⟩ := sm1.at_ i _ q0
    refine ⟨v0, e0, ?_⟩
    refine hk.then (P := PostS C H ω N) sm1.hid p (fun _ _ _ p => PX.pre t1.hid p) (fun p => p) fun o s2 p w H2 ω2 t2 sm2 r2 => ?_
    cases q1 : getO s2 o with
    | none => rw [q1] at p; exact p.elim
    | some k =>
      rw [q1] at p
      simp only at p
      cases q2 : setIx s2 i k d with
      | none => rw [q2] at p; exact p.elim
      | some s3 =>
        rw [q2] at p
        unfold setIx at q2
        split at q2
        · rename_i xs kk q3
          obtain ⟨w', us, ee, hw', _⟩ := r2.vw1 sm2 q1
          cases ee
          cases hw'.int
          cases q4 : ixN xs.length kk with
          | none => rw [q4] at q2; cases q2
          | some j =>
            rw [q4] at q2
            cases q2
            have t3 := t1.keepW t2
            have sm3 := sm2.keepW t2
            have hf : ∀ a u, H1 a = some u → ω1 a = none → H2 a = some u ∧ SV.keepW H1 ω1 ω2 a = none := fun a u h z => by
              obtain ⟨h2, e2⟩ := t2.keep a u h (.inl (hide_none z))
              exact ⟨h2, (keepW_ne (.inr fun q y => by rw [z] at y; cases y)).trans (fzw_none (e2.trans (hide_none z)))⟩
            have r3 : Rep C.X.K H2 (SV.keepW H1 ω1 ω2) .res [] d v := r1.any t2.tup hf fd
            obtain ⟨v', a, vs, ev, va, hH, hl, rr, c1, c2, c3⟩ := sm3.change (n := j) (π := []) q3 rfl
            cases va
            rw [e0] at ev
            cases ev
            refine ⟨_, vs, kk, j, rfl, rfl, hH, by rw [← hl]; exact q4, ?_⟩
            obtain ⟨sm, tr⟩ := c3 (xs.set j d) (vs.set j v) ((c1 _).setV (by rw [Nat.zero_add]; exact c2 _ d v r3))
            refine go _ _ _ (t3.trans tr) sm (fun a ws h => tr.tup a ws (t2.tup a ws h)) (fun a u h z => ?_) p
            obtain ⟨h2, z2⟩ := hf a u h z
            obtain ⟨h3, z3⟩ := tr.keep a u h2 (.inl z2)
            exact ⟨h3, z3.trans z2⟩
        · cases q2
  · exact p.elim
theorem ss_swap (k : C.Ok lv) {i : Nat} {mk mk2 : M Opd} {m : M D} {p2 p3 p4 p5 pt : Pos} {kt : Nat} (hk : SO C b mk) (hk2 : SO C b2 mk2) (hm : SE C e m) (hN : C.X.N[i]? = some x := by rfl) (hv : Vis C.X.env.scope x := by first | exact Or.inl rfl | exact Or.inr (Or.inl rfl) | exact Or.inr (Or.inr rfl)) (hd : (x == ("__debug__" : Str)) = false := by decide)
    (hcd : (x == ("__classdict__" : Str)) = false := by decide)
    (ha : ∀ v, assign (.Subscript (.Name x p2) b p3) C.X.env v = (do
      let ov ← holding [v] (eval (.Name x p2) C.X.env)
      let iv ← holding [v, ov] (eval b C.X.env)
      standAt p3
      holding [v, ov, iv] (setItem ov iv v)
      release [v, ov, iv] []) := by intro _; rfl)
    (ha2 : ∀ v, assign (.Subscript (.Name x p4) b2 p5) C.X.env v = (do
      let ov ← holding [v] (eval (.Name x p4) C.X.env)
      let iv ← holding [v, ov] (eval b2 C.X.env)
      standAt p5
      holding [v, ov, iv] (setItem ov iv v)
      release [v, ov, iv] []) := by intro _; rfl)
    (hc1 : (assignEach [.Subscript (.Name x p2) b p3, .Subscript (.Name x p4) b2 p5] C.X.env).map (·.2) = assign (.Subscript (.Name x p2) b p3) C.X.env :: (assignEach [.Subscript (.Name x p4) b2 p5] C.X.env).map (·.2) := by rfl)
    (hc2 : (assignEach [.Subscript (.Name x p4) b2 p5] C.X.env).map (·.2) = assign (.Subscript (.Name x p4) b2 p5) C.X.env :: (assignEach [] C.X.env).map (·.2) := by rfl)
    (hal : (assignEach [.Subscript (.Name x p2) b p3, .Subscript (.Name x p4) b2 p5] C.X.env).length = 2 := by rfl) (hst : (assignEach [.Subscript (.Name x p2) b p3, .Subscript (.Name x p4) b2 p5] C.X.env).findIdx? (·.1) = none := by rfl)
    (hs : swapsWithSole [.Tuple [.Subscript (.Name x p2) b p3, .Subscript (.Name x p4) b2 p5] kt pt] e pos.line C.X.env = pure false := by rfl) (hw : swappedStores [.Tuple [.Subscript (.Name x p2) b p3, .Subscript (.Name x p4) b2 p5] kt pt] e C.X.env = pure none := by rfl)
    (h1 : (assignEach [.Tuple [.Subscript (.Name x p2) b p3, .Subscript (.Name x p4) b2 p5] kt pt] C.X.env).map (·.2) = [assign (.Tuple [.Subscript (.Name x p2) b p3, .Subscript (.Name x p4) b2 p5] kt pt) C.X.env] := by rfl) :
    SS C (.Assign [.Tuple [.Subscript (.Name x p2) b p3, .Subscript (.Name x p4) b2 p5] kt pt] e pos) (sSwap i mk mk2 m) := fun st σ H ω N s p => by
  refine ⟨_, ps_asg pe_w (pg_tup k.calm (pgs_cons (pg_sub (pe_var hN hv hd hcd) pe_w set_list ha) (pgs_cons (pg_sub (pe_var hN hv hd hcd) pe_w set_list ha2) pgs_nil hc2) hc1) hal hst) hs hw h1, ?_⟩
  refine hm.then (P := PostS C H ω N) s p (fun _ _ _ p => p) (fun p => p) fun d s1 p v H1 ω1 t1 sm1 r1 => ?_
  split at p
  · rename_i d1 d2
    split at p
    · rename_i hz
      obtain ⟨f1, f2⟩ := hz
      cases r1 with
      | tup hT hr =>
        cases hr with
        | cons a1 ar =>
        cases ar with
        | cons a2 an =>
        cases an
        refine ⟨_, _, rfl, hT.sq, rfl, ⟨_, _, rfl, ?_⟩⟩
        refine sub1_run (T := fun σ' H' => L2.gCons (gSub (tVar i) (WE C.X b2) L2.rSetL) L2.gNil [_] σ' H' N.nx) hk f1 t1 sm1 a1 p ?_
        intro s3 H3 ω3 t3 sm3 tt hf p
        refine ⟨_, [], rfl, ?_⟩
        refine sub1_run (T := fun σ' H' => L2.gNil [] σ' H' N.nx) hk2 f2 t3 sm3 (a2.any (τ' := .res) (q := []) tt hf f2) p ?_
        intro s4 H4 ω4 t4 sm4 _ _ p
        exact ⟨rfl, p _ _ _ t4 sm4⟩
    · exact p.elim
  · exact p.elim
theorem kc_neg {z : Int} {j} {pc pu : Pos} : KC C (.UnaryOp .USub (.Constant (.int z) j pc) pu) (.int (-z)) (.int (-z)) := ⟨fun _ _ _ q => ⟨_, pe_un un_neg pe_int, ⟨z, rfl, q⟩⟩, fun _ _ _ _ => .int⟩
end
end SV

namespace SV
open PySem PySem.Spec PyProof.Rows L2
def bI (b : Bool) : Int := if b = true then 1 else 0
theorem op_add_bi {X : Cx} : OpR X (binaryOp .Add) (fun x y H Q => ∃ k i, x = .bl k ∧ y = .int i ∧ Q (.int (bI k + i)) H) := by
  intro pins s σ H x y v u Q I rx ry h
  obtain ⟨k, i, rfl, rfl, q⟩ := h
  obtain ⟨t, rfl⟩ := ry
  cases rx
  exact IntBool.add_bool_int ⟨.int (bI k + i), H, I.tok _, ⟨_, rfl⟩, q⟩
def gAddX : List D → Option D
  | [.bl b, .int j] => some (.int (bI b + j))
  | ds => gAdd ds
theorem a_addX {X : Cx} : AllocOp X.K (T2 X (binaryOp .Add)) gAddX := by
  intro H ω ds vs r Q hv e k
  unfold gAddX at e
  split at e
  · obtain ⟨v, _, rfl, h1, w, _, rfl, h2, rfl⟩ := hv
    cases e
    cases h1
    cases h2
    exact ⟨_, op_add_bi, _, _, rfl, rfl, k _ H ω (.inl ⟨rfl, rfl⟩) .int⟩
  · exact a_add H ω _ vs r Q hv e k
end SV

namespace SV
open PySem PySem.Spec PyProof.Rows L2
def insOF (xs : List D) (o : Option (List D)) : Option (List D) := match o with
  | some [.int k, d] => if frzdL xs = true ∧ frzd d = true ∧ xs.length < 100000 ∧ 0 ≤ k ∧ k.natAbs < 1000000 then some (xs.take k.toNat ++ [d] ++ xs.drop k.toNat) else none
  | _ => none
def kInsF2 (i : Nat) (os : List Opd) (s : S) (o : Option (Option D)) : Rs D := match o with
  | some (some (.lst true xs)) => insR i s (insOF xs (getL s os))
  | _ => .stuck
def kInsF1 (i : Nat) (os : List Opd) (s : S) : Rs D := kInsF2 i os s (s[i]?)
def kInsF (i : Nat) (ms : M (List Opd)) (st : S) (o : Option (Option D)) : Rs D := match o with
  | some (some (.lst true _)) => (ms st).bind (kInsF1 i)
  | _ => .stuck
def eInsF (i : Nat) (ms : M (List Opd)) : M D := fun st => kInsF i ms st (st[i]?)
theorem getL2 {s : S} {os : List Opd} {x y : D} (h : getL s os = some [x, y]) : ∃ o1 o2, os = [o1, o2] ∧ getO s o1 = some x ∧ getO s o2 = some y := by
  cases os with
  | nil => simp [getL] at h
  | cons o1 os =>
    cases os with
    | nil =>
      cases e : getO s o1 <;> simp [getL, e] at h
    | cons o2 os =>
      cases os with
      | nil =>
        cases e : getO s o1 <;> cases e2 : getO s o2 <;> simp [getL, e, e2] at h
        exact ⟨o1, o2, rfl, by rw [e, h.1], by rw [e2, h.2]⟩
      | cons o3 os =>
        cases e : getO s o1 <;> cases e2 : getO s o2 <;> cases e3 : getO s o3 <;> cases e4 : getL s os <;> simp [getL, e, e2, e3, e4] at h
section
variable {C : Ct} {x : Str} {es : List Expr}
theorem se_insF {i : Nat} {ms : M (List Opd)} {pos' apos cpos : Pos} (hs : SA C es ms) (hN : C.X.N[i]? = some x := by rfl) (hv : Vis C.X.env.scope x := by first | exact Or.inl rfl | exact Or.inr (Or.inl rfl) | exact Or.inr (Or.inr rfl)) (hd : (x == ("__debug__" : Str)) = false := by decide)
    (hcd : (x == ("__classdict__" : Str)) = false := by decide) (hbase : attributeBase (.Name x pos') "insert" C.X.env (eval (.Name x pos') C.X.env) = eval (.Name x pos') C.X.env := by rfl)
    (hfew : ((backTo cpos (starEach es C.X.env)).all (fun x => !x.1) && (backToKw cpos (keywordEach [] C.X.env)).all (fun x => x.1.isSome)
      && decide (es.length + ([] : List Keyword).length + (if ([] : List Keyword).isEmpty then 0 else 1) < 30)) = true := by rfl)
    (hline : (apos.endLine == cpos.line) = true := by rfl) (hst : StarOk C.X.env es := by repeat' (first | exact trivial | exact rfl | constructor)) {e0 : Expr} {es0 : List Expr} (he : es = e0 :: es0 := by rfl) (hse : starEach es C.X.env = (false, eval e0 C.X.env) :: starEach es0 C.X.env := by rfl) (hpl : (backTo cpos (starEach es0 C.X.env)).any (·.1) = false := by rfl) :
    SE C (.Call (.Attribute (.Name x pos') "insert" apos) es [] cpos) (eInsF i ms) := fun st σ H ω Q s p => by
  subst he
  refine ⟨_, pe_bm PySem.F.plainAttrs_list PySem.F.slot_list_insert PySem.F.type_list_insert mt_insert (pe_var hN hv hd hcd) (pa_wl hst) hbase hfew hline hse hpl, ?_⟩
  unfold eInsF at p
  cases q0 : st[i]? with
  | none => rw [q0] at p; exact p.elim
  | some o =>
  cases o with
  | none => rw [q0] at p; exact p.elim
  | some d =>
  rw [q0] at p
  cases d with
  | lst o xs0 =>
    cases o with
    | false => exact p.elim
    | true =>
    simp only [kInsF] at p
    obtain ⟨v0, ev0, r0⟩ := s.at_ i _ q0
    cases r0 with
    | lst h0 _ _ =>
      refine ⟨_, ev0, tyV_lst h0, ?_⟩
      refine hs 0 st σ H ω _ s ?_
      cases e1 : ms st with
      | stuck => rw [e1] at p; exact p
      | exc x w s1 => rw [e1] at p; exact p
      | ok os s1 =>
        rw [e1] at p
        simp only [Rs.bind] at p
        intro vs H1 ω1 t1 sm1 r1
        unfold kInsF1 kInsF2 at p
        split at p
        · rename_i xs q
          cases q2 : getL s1 os with
          | none => rw [q2] at p; exact p.elim
          | some ds =>
          rw [q2] at p
          unfold insOF at p
          split at p
          · rename_i k d e3
            cases e3
            split at p
            · rename_i hz
              obtain ⟨v', a, vs', ev, va, hH, hl, rr, c1, c2, c3⟩ := sm1.change (n := 0) (π := []) q rfl
              cases va
              rw [ev0] at ev
              cases ev
              obtain ⟨o1, o2, rfl, g1, g2⟩ := getL2 q2
              obtain ⟨v1, us1, rfl, w1, rr1⟩ := r1.get sm1 g1
              obtain ⟨v2, us2, rfl, w2, rr2⟩ := rr1.get sm1 g2
              cases rr2
              have e1' : v1 = .int k := by cases o1 <;> (cases w1; rfl)
              cases e1'
              have fd : frzd d = true := hz.2.1
              have rd : Rep C.X.K H1 ω1 .res [] d v2 := by
                cases o2 with
                | v _ => exact w2.any (fun _ _ h => h) (fun a u h z => ⟨h, z⟩) fd
                | s _ => exact w2.any (fun _ _ h => h) (fun a u h z => ⟨h, z⟩) fd
              refine ⟨_, vs', k, v2, rfl, rfl, hH, ?_, hz.2.2.2.1, by omega, ?_⟩
              · rw [← hl]
                exact Nat.lt_of_lt_of_le (Nat.lt_of_lt_of_le hz.2.2.1 (Nat.le_refl _)) (by decide)
              · obtain ⟨sm, tr⟩ := c3 (xs.take k.toNat ++ [d] ++ xs.drop k.toNat) (vs'.take k.toNat ++ [v2] ++ vs'.drop k.toNat) (by
                  have base := c1 (vs'.take k.toNat ++ [v2] ++ vs'.drop k.toNat)
                  exact ((Reps.take (n := k.toNat) base).append (.cons ((c2 _ d v2 rd).any (fun _ _ h => h) (fun a u h z => ⟨h, z⟩) fd) .nil)).append (Reps.dropF hz.1 base))
                exact p .non _ _ (t1.trans tr) sm .non
            · exact p.elim
          · exact p.elim
        · exact p.elim
  | _ => exact p.elim
end
end SV

namespace SV
open PySem PySem.Spec PyProof.Rows L2 RZ
abbrev IsTri (h : Heap) (T : Addr) (a b c : Value) : Prop := h.get? T = some { cls := .type "tuple", data := .seq #[a, b, c] }
theorem an (x y : Nat) (h : x < y ∨ y < x) : x ≠ y := by omega
structure Z3 (z TI TO i1 i2 i3 l1 l2 l3 : Nat) : Prop where
  e2 : i2 = i1 + 1
  e3 : i3 = i1 + 2
  eT : TI = i1 + 3
  eO : TO = i1 + 4
  ez : z = i1 + 5
  p1 : l1 < i1
  p2 : l2 < i1
  p3 : l3 < i1
section
variable {prog : Program} {w : World} {A : Around} {E : Value → Shared → Prop} {s : Shared}
theorem upd_tri {T : Addr} {a b c x : Value} {k : Nat} {Q : Unit → Shared → Prop} (hT : IsTri s.heap T a b c)
    (h : ∀ h', h'.get? T = some { cls := .type "tuple", data := .seq ((#[a, b, c] : Array Value).setIfInBounds k x) } → Heap.SameBut T s.heap h' → Q () { s with heap := h' }) :
    wpAny (model prog w) A (updateSeq T (·.setIfInBounds k x)) Q E s := by
  refine wpAny_updateSeq hT rfl (h _ ?_ (Heap.SameBut.update ..))
  rw [Heap.get?_update_self _ hT rfl]
  simp [Obj.mapSeq]
def Kp3 (h h' : Heap) (z TO i1 i2 i3 : Addr) : Prop := ∀ c o, c ≠ z → c ≠ TO → c ≠ i1 → c ≠ i2 → c ≠ i3 → h.get? c = some o → h'.get? c = some o
theorem zip3_next {ta tb tc : Bool} {z TI TO i1 i2 i3 l1 l2 l3 : Nat} {k : Nat} {xs ys zs : Array Value} {x y v a b c : Value} {Q : Value → Shared → Prop} (D : Z3 z TI TO i1 i2 i3 l1 l2 l3)
    (hz : IsZipS s.heap z TI TO .none) (hTI : IsTri s.heap TI (.ref i1) (.ref i2) (.ref i3)) (hTO : IsTri s.heap TO a b c)
    (h1 : SqI ta s.heap i1 l1 k) (h2 : SqI tb s.heap i2 l2 k) (h3 : SqI tc s.heap i3 l3 k) (hl1 : SqO ta s.heap l1 xs) (hl2 : SqO tb s.heap l2 ys) (hl3 : SqO tc s.heap l3 zs) (hx : xs[k]? = some x) (hy : ys[k]? = some y) (hv : zs[k]? = some v)
    (q : ∀ h', IsZipS h' z TI TO (rawInt s.heap.objs.size) → IsTri h' TO x y v → SqI ta h' i1 l1 (k + 1) → SqI tb h' i2 l2 (k + 1) → SqI tc h' i3 l3 (k + 1) → IsTri h' s.heap.objs.size x y v → h'.objs.size = s.heap.objs.size + 1 →
      Kp3 s.heap h' z TO i1 i2 i3 → Q (.ref s.heap.objs.size) { s with heap := h' }) :
    wpAny (model prog w) A (Builtin.«zip.__next__» ⟨[.ref z], []⟩) (fun fin s' => ∃ v, fin = .done (.ret v) ∧ Q v s') E s := by
  obtain ⟨d2, d3, dT, dO, dz, p1, p2, p3⟩ := D
  have Ti1 : i1 ≠ z := by first | omega | exact an _ _ (by omega)
  have Ti2 : i2 ≠ z := by first | omega | exact an _ _ (by omega)
  have Ti3 : i3 ≠ z := by first | omega | exact an _ _ (by omega)
  have Ol1 : l1 ≠ z := by first | omega | exact an _ _ (by omega)
  have Ol2 : l2 ≠ z := by first | omega | exact an _ _ (by omega)
  have Ol3 : l3 ≠ z := by first | omega | exact an _ _ (by omega)
  have TOi1 : TO ≠ i1 := by first | omega | exact an _ _ (by omega)
  have TOi2 : TO ≠ i2 := by first | omega | exact an _ _ (by omega)
  have TOi3 : TO ≠ i3 := by first | omega | exact an _ _ (by omega)
  have TOz : TO ≠ z := by first | omega | exact an _ _ (by omega)
  have i12 : i1 ≠ i2 := by first | omega | exact an _ _ (by omega)
  have i13 : i1 ≠ i3 := by first | omega | exact an _ _ (by omega)
  have i23 : i2 ≠ i3 := by first | omega | exact an _ _ (by omega)
  have l2TO : l2 ≠ TO := by first | omega | exact an _ _ (by omega)
  have l3TO : l3 ≠ TO := by first | omega | exact an _ _ (by omega)
  have l2i1 : l2 ≠ i1 := by first | omega | exact an _ _ (by omega)
  have l3i1 : l3 ≠ i1 := by first | omega | exact an _ _ (by omega)
  have l3i2 : l3 ≠ i2 := by first | omega | exact an _ _ (by omega)
  clear d2 d3 dT dO dz p1 p2 p3
  show wpAny _ _ (field (.ref z) 2 >>= _) _ _ _
  refine wpAny_bind (wpAny_field hz rfl (x := .bool true) rfl ?_)
  show wpAny _ _ (field (.ref z) 3 >>= _) _ _ _
  refine wpAny_bind (wpAny_field hz rfl (x := .ref TI) rfl ?_)
  refine wpAny_bind (wpAny_seqItems hTI rfl ?_)
  show wpAny _ _ (Builtin.SmallTypes.ownedTupleIsFree (.ref z) >>= _) _ _ _
  refine wpAny_bind ?_
  unfold Builtin.SmallTypes.ownedTupleIsFree
  refine wpAny_bind (wpAny_field hz rfl (x := .none) rfl (wpAny_pure ?_))
  simp only [if_true]
  refine wpAny_bind (wpAny_rule ?_)
  refine wpAny_bind (wpAny_field hz rfl (x := .ref TO) rfl ?_)
  refine wpAny_bind (wpAny_setField_rec hz (by simp) fun g1 z1 s1 => ?_)
  replace z1 : IsZipS g1 z TI TO .ellipsis := z1
  refine wpAny_bind ?_
  simp only [List.zipIdx_cons, List.zipIdx_nil, List.forIn_cons, List.forIn_nil]
  refine wpAny_bind (wpAny_bind (wpAny_onRaise ?_))
  show wpAny _ _ (Builtin.SmallTypes.nextOrEnd (.ref i1)) _ _ _
  refine draw_item (h1.on fun o e => s1.extBut _ _ Ti1 e) (hl1.on fun o e => s1.extBut _ _ Ol1 e) hx fun g2 a2 s2 => ?_
  have p2 : IsTri g2 TO a b c := s2.extBut _ _ TOi1 (s1.extBut _ _ TOz hTO)
  refine wpAny_bind (wpAny_seqItems p2 rfl ?_)
  refine wpAny_bind (upd_tri p2 fun g3 p3 s3 => ?_)
  replace p3 : IsTri g3 TO x b c := p3
  refine wpAny_bind (wpAny_letGo (wpAny_pure ?_))
  refine wpAny_bind (wpAny_bind (wpAny_onRaise ?_))
  show wpAny _ _ (Builtin.SmallTypes.nextOrEnd (.ref i2)) _ _ _
  refine draw_item (h2.on fun o e => s3.extBut _ _ TOi2.symm (s2.extBut _ _ i12.symm (s1.extBut _ _ Ti2 e))) (hl2.on fun o e => s3.extBut _ _ l2TO (s2.extBut _ _ l2i1 (s1.extBut _ _ Ol2 e))) hy fun g4 a4 s4 => ?_
  have p4 : IsTri g4 TO x b c := s4.extBut _ _ TOi2 p3
  refine wpAny_bind (wpAny_seqItems p4 rfl ?_)
  refine wpAny_bind (upd_tri p4 fun g5 p5 s5 => ?_)
  replace p5 : IsTri g5 TO x y c := p5
  refine wpAny_bind (wpAny_letGo (wpAny_pure ?_))
  refine wpAny_bind (wpAny_bind (wpAny_onRaise ?_))
  show wpAny _ _ (Builtin.SmallTypes.nextOrEnd (.ref i3)) _ _ _
  refine draw_item (h3.on fun o e => s5.extBut _ _ TOi3.symm (s4.extBut _ _ i23.symm (s3.extBut _ _ TOi3.symm (s2.extBut _ _ i13.symm (s1.extBut _ _ Ti3 e))))) (hl3.on fun o e => s5.extBut _ _ l3TO (s4.extBut _ _ l3i2 (s3.extBut _ _ l3TO (s2.extBut _ _ l3i1 (s1.extBut _ _ Ol3 e))))) hv fun g6 a6 s6 => ?_
  have p6 : IsTri g6 TO x y c := s6.extBut _ _ TOi3 p5
  refine wpAny_bind (wpAny_seqItems p6 rfl ?_)
  refine wpAny_bind (upd_tri p6 fun g9 p9 s9 => ?_)
  replace p9 : IsTri g9 TO x y v := p9
  refine wpAny_bind (wpAny_letGo (wpAny_pure (wpAny_pure ?_)))
  refine wpAny_bind (wpAny_seqItems p9 rfl ?_)
  refine wpAny_bind (wpAny_newTuple ?_)
  have sz : g9.objs.size = s.heap.objs.size := by rw [s9.1, s6.1, s5.1, s4.1, s3.1, s2.1, s1.1]
  have z5 : IsZipS g9 z TI TO .ellipsis := s9.extBut _ _ TOz.symm (s6.extBut _ _ Ti3.symm (s5.extBut _ _ TOz.symm (s4.extBut _ _ Ti2.symm (s3.extBut _ _ TOz.symm (s2.extBut _ _ Ti1.symm z1)))))
  have keep5 : ∀ c o, c ≠ z → c ≠ TO → c ≠ i1 → c ≠ i2 → c ≠ i3 → s.heap.get? c = some o → g9.get? c = some o := fun c o n1 n2 n3 n4 n5 e =>
    s9.extBut _ _ n2 (s6.extBut _ _ n5 (s5.extBut _ _ n2 (s4.extBut _ _ n4 (s3.extBut _ _ n2 (s2.extBut _ _ n3 (s1.extBut _ _ n1 e))))))
  have b1 : SqI ta g9 i1 l1 (k + 1) := a2.on fun o e => s9.extBut _ _ TOi1.symm (s6.extBut _ _ i13 (s5.extBut _ _ TOi1.symm (s4.extBut _ _ i12 (s3.extBut _ _ TOi1.symm e))))
  have b2 : SqI tb g9 i2 l2 (k + 1) := a4.on fun o e => s9.extBut _ _ TOi2.symm (s6.extBut _ _ i23 (s5.extBut _ _ TOi2.symm e))
  have b3 : SqI tc g9 i3 l3 (k + 1) := a6.on fun o e => s9.extBut _ _ TOi3.symm e
  have ltz : z < g9.objs.size := Heap.lt_size z5
  show wpAny _ _ (Builtin.SmallTypes.ownedTupleHandOut (.ref z) (.ref g9.objs.size) >>= _) _ _ _
  refine wpAny_bind ?_
  unfold Builtin.SmallTypes.ownedTupleHandOut
  have z6 : IsZipS (g9.push { cls := .type "tuple", data := .seq #[x, y, v] }) z TI TO .ellipsis := Heap.get?_push_of_some _ z5
  refine wpAny_bind (wpAny_setField_rec z6 (by simp) fun g7 z7 s7 => ?_)
  replace z7 : IsZipS g7 z TI TO (rawInt g9.objs.size) := z7
  refine wpAny_setField_rec z7 (by simp) fun g8 z8 s8 => ?_
  replace z8 : IsZipS g8 z TI TO (rawInt g9.objs.size) := z8
  have up : ∀ c o, c ≠ z → g9.get? c = some o → g8.get? c = some o := fun c o n e => s8.extBut _ _ n (s7.extBut _ _ n (Heap.get?_push_of_some _ e))
  have T8 : IsTri g8 g9.objs.size x y v := s8.extBut _ _ (Nat.ne_of_gt ltz) (s7.extBut _ _ (Nat.ne_of_gt ltz) (Heap.get?_push_size _ rfl))
  have n8 : g8.objs.size = g9.objs.size + 1 := by rw [s8.1, s7.1, Heap.size_push]
  rw [sz] at z8 T8 n8
  refine wpAny_pure ⟨_, rfl, ?_⟩
  show Q (.ref g9.objs.size) _
  rw [sz]
  exact q g8 z8 (up _ _ TOz p9) (b1.on fun o e => up _ o Ti1 e) (b2.on fun o e => up _ o Ti2 e) (b3.on fun o e => up _ o Ti3 e) T8 n8 fun c o n1 n2 n3 n4 n5 e => up c o n1 (keep5 c o n1 n2 n3 n4 n5 e)
theorem zip3_end {ta tb tc : Bool} {z TI TO i1 i2 i3 l1 l2 l3 : Nat} {k : Nat} {xs ys zs : Array Value} {a b c : Value} {Q : PySem.Fin → Shared → Prop} (hh : A.handled = none) (D : Z3 z TI TO i1 i2 i3 l1 l2 l3)
    (hz : IsZipS s.heap z TI TO .none) (hTI : IsTri s.heap TI (.ref i1) (.ref i2) (.ref i3)) (hTO : IsTri s.heap TO a b c)
    (h1 : SqI ta s.heap i1 l1 k) (h2 : SqI tb s.heap i2 l2 k) (h3 : SqI tc s.heap i3 l3 k) (hl1 : SqO ta s.heap l1 xs) (hl2 : SqO tb s.heap l2 ys) (hl3 : SqO tc s.heap l3 zs) (hx : xs[k]? = none) (hy : ys[k]? = none) (hv : zs[k]? = none)
    (q : ∀ h' e, Kp3 s.heap h' z TO i1 i2 i3 → (∃ o, h'.get? e = some o ∧ o.cls = .type "StopIteration") → E (.ref e) { s with heap := h' }) :
    wpAny (model prog w) A (Builtin.«zip.__next__» ⟨[.ref z], []⟩) Q E s := by
  obtain ⟨d2, d3, dT, dO, dz, p1, p2, p3⟩ := D
  have Ti1 : i1 ≠ z := by first | omega | exact an _ _ (by omega)
  have Ti2 : i2 ≠ z := by first | omega | exact an _ _ (by omega)
  have Ti3 : i3 ≠ z := by first | omega | exact an _ _ (by omega)
  have Ol1 : l1 ≠ z := by first | omega | exact an _ _ (by omega)
  have Ol2 : l2 ≠ z := by first | omega | exact an _ _ (by omega)
  have Ol3 : l3 ≠ z := by first | omega | exact an _ _ (by omega)
  have i12 : i1 ≠ i2 := by first | omega | exact an _ _ (by omega)
  have i13 : i1 ≠ i3 := by first | omega | exact an _ _ (by omega)
  have i23 : i2 ≠ i3 := by first | omega | exact an _ _ (by omega)
  have l2i1 : l2 ≠ i1 := by first | omega | exact an _ _ (by omega)
  have l3i1 : l3 ≠ i1 := by first | omega | exact an _ _ (by omega)
  have l3i2 : l3 ≠ i2 := by first | omega | exact an _ _ (by omega)
  clear d2 d3 dT dO dz p1 p2 p3
  show wpAny _ _ (field (.ref z) 2 >>= _) _ _ _
  refine wpAny_bind (wpAny_field hz rfl (x := .bool true) rfl ?_)
  show wpAny _ _ (field (.ref z) 3 >>= _) _ _ _
  refine wpAny_bind (wpAny_field hz rfl (x := .ref TI) rfl ?_)
  refine wpAny_bind (wpAny_seqItems hTI rfl ?_)
  show wpAny _ _ (Builtin.SmallTypes.ownedTupleIsFree (.ref z) >>= _) _ _ _
  refine wpAny_bind ?_
  unfold Builtin.SmallTypes.ownedTupleIsFree
  refine wpAny_bind (wpAny_field hz rfl (x := .none) rfl (wpAny_pure ?_))
  simp only [if_true]
  refine wpAny_bind (wpAny_rule ?_)
  refine wpAny_bind (wpAny_field hz rfl (x := .ref TO) rfl ?_)
  refine wpAny_bind (wpAny_setField_rec hz (by simp) fun g1 z1 s1 => ?_)
  replace z1 : IsZipS g1 z TI TO .ellipsis := z1
  refine wpAny_bind ?_
  simp only [List.zipIdx_cons, List.zipIdx_nil, List.forIn_cons, List.forIn_nil]
  refine wpAny_bind (wpAny_bind (wpAny_onRaise ?_))
  show wpAny _ _ (Builtin.SmallTypes.nextOrEnd (.ref i1)) _ _ _
  refine draw_end hh (h1.on fun o e => s1.extBut _ _ Ti1 e) (hl1.on fun o e => s1.extBut _ _ Ol1 e) hx fun g2 s2 => ?_
  have z2 : IsZipS g2 z TI TO .ellipsis := s2 _ _ Ti1.symm z1
  refine wpAny_bind (wpAny_setField_rec z2 (by simp) fun g3 z3 s3 => ?_)
  have fin : ∀ (h' : Heap), Kp3 s.heap h' z TO i1 i2 i3 → ∀ (B : PySem.Fin → Shared → Prop), wpAny (model prog w) A (Builtin.SmallTypes.stopIteration (α := PySem.Fin)) B E { s with heap := h' } := fun h' hk B => by
    unfold Builtin.SmallTypes.stopIteration
    show wpAny _ _ (newExc (.type "StopIteration") [] >>= _) _ _ _
    refine wpAny_bind ?_
    simp only [newExc, newTuple]
    refine wpAny_bind (wpAny_newObj_type ?_ (by size_fits))
    refine wpAny_bind (m := firstArgMember _ _) (wpAny_of_eq (a := Value.none) (by first | rfl | (simp only [firstArgMember]; rfl)) ?_)
    refine wpAny_newObj_type ?_ (by size_fits)
    simp only [raiseNew]
    refine wpAny_bind (wpAny_handled ?_)
    rw [hh]
    refine wpAny_bind (wpAny_pure (wpAny_throw ?_))
    exact q _ _ (fun c o n1 n2 n3 n4 n5 e => Heap.get?_push_of_some _ (Heap.get?_push_of_some _ (hk c o n1 n2 n3 n4 n5 e))) ⟨_, Heap.get?_push_size _ rfl, rfl⟩
  have hk3 : Kp3 s.heap g3 z TO i1 i2 i3 := fun c o n1 n2 n3 n4 n5 e => s3.extBut _ _ n1 (s2 _ _ n3 (s1.extBut _ _ n1 e))
  refine wpAny_bind (wpAny_mono (Q := fun _ _ => False) ?_ (fun _ _ z => z.elim) fun _ _ z => z)
  refine wpAny_bind (Q := fun _ _ => False) (m := forIn ((List.drop 1 [Value.ref i1, Value.ref i2, Value.ref i3]).zipIdx 1) PUnit.unit _) ?_
  simp only [List.drop_succ_cons, List.drop_zero, List.zipIdx_cons, List.zipIdx_nil, List.forIn_cons, List.forIn_nil]
  refine wpAny_bind (wpAny_bind (draw_end hh (h2.on fun o e => s3.extBut _ _ Ti2 (s2 _ _ i12.symm (s1.extBut _ _ Ti2 e))) (hl2.on fun o e => s3.extBut _ _ Ol2 (s2 _ _ l2i1 (s1.extBut _ _ Ol2 e))) hy fun g4 s4 => ?_))
  refine wpAny_pure ?_
  refine wpAny_bind (wpAny_bind (draw_end hh (h3.on fun o e => s4 _ _ i23.symm (s3.extBut _ _ Ti3 (s2 _ _ i13.symm (s1.extBut _ _ Ti3 e)))) (hl3.on fun o e => s4 _ _ l3i2 (s3.extBut _ _ Ol3 (s2 _ _ l3i1 (s1.extBut _ _ Ol3 e)))) hv fun g5 s5 => ?_))
  refine wpAny_pure ?_
  refine wpAny_pure ?_
  refine wpAny_bind (wpAny_rule ?_)
  exact fin g5 (fun c o n1 n2 n3 n4 n5 e => s5 _ _ n5 (s4 _ _ n4 (hk3 c o n1 n2 n3 n4 n5 e))) _
theorem zip3_nextH {ta tb tc : Bool} {z TI TO T i1 i2 i3 l1 l2 l3 : Nat} {f : Bool} {oT : Obj} {k : Nat} {xs ys zs : Array Value} {x y v : Value} {Q : Value → Shared → Prop} (D : Z3 z TI TO i1 i2 i3 l1 l2 l3)
    (hz : IsZipH s.heap z TI TO T f) (hT : s.heap.get? T = some oT) (hTI : IsTri s.heap TI (.ref i1) (.ref i2) (.ref i3))
    (h1 : SqI ta s.heap i1 l1 k) (h2 : SqI tb s.heap i2 l2 k) (h3 : SqI tc s.heap i3 l3 k) (hl1 : SqO ta s.heap l1 xs) (hl2 : SqO tb s.heap l2 ys) (hl3 : SqO tc s.heap l3 zs) (hx : xs[k]? = some x) (hy : ys[k]? = some y) (hv : zs[k]? = some v)
    (q : ∀ h', IsZipH h' z TI TO T true → SqI ta h' i1 l1 (k + 1) → SqI tb h' i2 l2 (k + 1) → SqI tc h' i3 l3 (k + 1) → IsTri h' s.heap.objs.size x y v → h'.objs.size = s.heap.objs.size + 1 →
      (∀ c o, c ≠ z → c ≠ i1 → c ≠ i2 → c ≠ i3 → s.heap.get? c = some o → h'.get? c = some o) → Q (.ref s.heap.objs.size) { s with heap := h' }) :
    wpAny (model prog w) A (Builtin.«zip.__next__» ⟨[.ref z], []⟩) (fun fin s' => ∃ v, fin = .done (.ret v) ∧ Q v s') E s := by
  obtain ⟨d2, d3, dT, dO, dz, p1, p2, p3⟩ := D
  have Ti1 : i1 ≠ z := by first | omega | exact an _ _ (by omega)
  have Ti2 : i2 ≠ z := by first | omega | exact an _ _ (by omega)
  have Ti3 : i3 ≠ z := by first | omega | exact an _ _ (by omega)
  have Ol1 : l1 ≠ z := by first | omega | exact an _ _ (by omega)
  have Ol2 : l2 ≠ z := by first | omega | exact an _ _ (by omega)
  have Ol3 : l3 ≠ z := by first | omega | exact an _ _ (by omega)
  have i12 : i1 ≠ i2 := by first | omega | exact an _ _ (by omega)
  have i13 : i1 ≠ i3 := by first | omega | exact an _ _ (by omega)
  have i23 : i2 ≠ i3 := by first | omega | exact an _ _ (by omega)
  have l2i1 : l2 ≠ i1 := by first | omega | exact an _ _ (by omega)
  have l3i1 : l3 ≠ i1 := by first | omega | exact an _ _ (by omega)
  have l3i2 : l3 ≠ i2 := by first | omega | exact an _ _ (by omega)
  clear d2 d3 dT dO dz p1 p2 p3
  show wpAny _ _ (field (.ref z) 2 >>= _) _ _ _
  refine wpAny_bind (wpAny_field hz rfl (x := .bool true) rfl ?_)
  show wpAny _ _ (field (.ref z) 3 >>= _) _ _ _
  refine wpAny_bind (wpAny_field hz rfl (x := .ref TI) rfl ?_)
  refine wpAny_bind (wpAny_seqItems hTI rfl ?_)
  show wpAny _ _ (Builtin.SmallTypes.ownedTupleIsFree (.ref z) >>= _) _ _ _
  refine wpAny_bind (tupleHeldS hz hT fun g1 z1 s1 => ?_)
  simp only [Bool.false_eq_true, if_false]
  refine wpAny_bind ?_
  rw [← Array.forIn_toList]
  simp only [List.forIn_cons, List.forIn_nil]
  refine wpAny_bind (wpAny_bind (wpAny_holding ?_))
  show wpAny _ _ (Builtin.SmallTypes.nextOrEnd (.ref i1)) _ _ _
  refine draw_item (h1.on fun o e => s1.extBut _ _ Ti1 e) (hl1.on fun o e => s1.extBut _ _ Ol1 e) hx fun g2 a2 s2 => ?_
  refine wpAny_pure ?_
  refine wpAny_bind (wpAny_bind (wpAny_holding ?_))
  show wpAny _ _ (Builtin.SmallTypes.nextOrEnd (.ref i2)) _ _ _
  refine draw_item (h2.on fun o e => s2.extBut _ _ i12.symm (s1.extBut _ _ Ti2 e)) (hl2.on fun o e => s2.extBut _ _ l2i1 (s1.extBut _ _ Ol2 e)) hy fun g3 a3 s3 => ?_
  refine wpAny_pure ?_
  refine wpAny_bind (wpAny_bind (wpAny_holding ?_))
  show wpAny _ _ (Builtin.SmallTypes.nextOrEnd (.ref i3)) _ _ _
  refine draw_item (h3.on fun o e => s3.extBut _ _ i23.symm (s2.extBut _ _ i13.symm (s1.extBut _ _ Ti3 e))) (hl3.on fun o e => s3.extBut _ _ l3i2 (s2.extBut _ _ l3i1 (s1.extBut _ _ Ol3 e))) hv fun g4 a4 s4 => ?_
  refine wpAny_pure (wpAny_pure ?_)
  show wpAny _ _ (newTuple [x, y, v] >>= _) _ _ _
  refine wpAny_bind (wpAny_newTuple ?_)
  have hsz : g4.objs.size = s.heap.objs.size := by rw [s4.1, s3.1, s2.1, s1.1]
  have hz3 : IsZipH g4 z TI TO T true := s4.extBut _ _ Ti3.symm (s3.extBut _ _ Ti2.symm (s2.extBut _ _ Ti1.symm z1))
  have hk : ∀ c o, c ≠ z → c ≠ i1 → c ≠ i2 → c ≠ i3 → s.heap.get? c = some o → g4.get? c = some o := fun c o c1 c2 c3 c4 e => s4.extBut _ _ c4 (s3.extBut _ _ c3 (s2.extBut _ _ c2 (s1.extBut _ _ c1 e)))
  have b1 : SqI ta g4 i1 l1 (k + 1) := a2.on fun o e => s4.extBut _ _ i13 (s3.extBut _ _ i12 e)
  have b2 : SqI tb g4 i2 l2 (k + 1) := a3.on fun o e => s4.extBut _ _ i23 e
  refine wpAny_pure ⟨_, rfl, ?_⟩
  show Q (.ref g4.objs.size) _
  have hp : IsTri (g4.push { cls := .type "tuple", data := .seq #[x, y, v] }) g4.objs.size x y v := Heap.get?_push_size _ rfl
  have hz4 : (g4.push { cls := .type "tuple", data := .seq #[x, y, v] }).objs.size = g4.objs.size + 1 := Heap.size_push ..
  rw [hsz] at hp hz4 ⊢
  exact q _ (Heap.get?_push_of_some _ hz3) (b1.on fun o e => Heap.get?_push_of_some _ e) (b2.on fun o e => Heap.get?_push_of_some _ e) (a4.on fun o e => Heap.get?_push_of_some _ e) hp hz4 fun c o c1 c2 c3 c4 e => Heap.get?_push_of_some _ (hk c o c1 c2 c3 c4 e)
theorem zip3_endH {ta tb tc : Bool} {z TI TO T i1 i2 i3 l1 l2 l3 : Nat} {f : Bool} {oT : Obj} {k : Nat} {xs ys zs : Array Value} {Q : PySem.Fin → Shared → Prop} (hh : A.handled = none) (D : Z3 z TI TO i1 i2 i3 l1 l2 l3)
    (hz : IsZipH s.heap z TI TO T f) (hT : s.heap.get? T = some oT) (hTI : IsTri s.heap TI (.ref i1) (.ref i2) (.ref i3))
    (h1 : SqI ta s.heap i1 l1 k) (h2 : SqI tb s.heap i2 l2 k) (h3 : SqI tc s.heap i3 l3 k) (hl1 : SqO ta s.heap l1 xs) (hl2 : SqO tb s.heap l2 ys) (hl3 : SqO tc s.heap l3 zs) (hx : xs[k]? = none) (hy : ys[k]? = none) (hv : zs[k]? = none)
    (q : ∀ h' e, Kp3 s.heap h' z TO i1 i2 i3 → (∃ o, h'.get? e = some o ∧ o.cls = .type "StopIteration") → E (.ref e) { s with heap := h' }) :
    wpAny (model prog w) A (Builtin.«zip.__next__» ⟨[.ref z], []⟩) Q E s := by
  obtain ⟨d2, d3, dT, dO, dz, p1, p2, p3⟩ := D
  have Ti1 : i1 ≠ z := by first | omega | exact an _ _ (by omega)
  have Ti2 : i2 ≠ z := by first | omega | exact an _ _ (by omega)
  have Ti3 : i3 ≠ z := by first | omega | exact an _ _ (by omega)
  have Ol1 : l1 ≠ z := by first | omega | exact an _ _ (by omega)
  have Ol2 : l2 ≠ z := by first | omega | exact an _ _ (by omega)
  have Ol3 : l3 ≠ z := by first | omega | exact an _ _ (by omega)
  have i12 : i1 ≠ i2 := by first | omega | exact an _ _ (by omega)
  have i13 : i1 ≠ i3 := by first | omega | exact an _ _ (by omega)
  have i23 : i2 ≠ i3 := by first | omega | exact an _ _ (by omega)
  have l2i1 : l2 ≠ i1 := by first | omega | exact an _ _ (by omega)
  have l3i1 : l3 ≠ i1 := by first | omega | exact an _ _ (by omega)
  have l3i2 : l3 ≠ i2 := by first | omega | exact an _ _ (by omega)
  clear d2 d3 dT dO dz p1 p2 p3
  show wpAny _ _ (field (.ref z) 2 >>= _) _ _ _
  refine wpAny_bind (wpAny_field hz rfl (x := .bool true) rfl ?_)
  show wpAny _ _ (field (.ref z) 3 >>= _) _ _ _
  refine wpAny_bind (wpAny_field hz rfl (x := .ref TI) rfl ?_)
  refine wpAny_bind (wpAny_seqItems hTI rfl ?_)
  show wpAny _ _ (Builtin.SmallTypes.ownedTupleIsFree (.ref z) >>= _) _ _ _
  refine wpAny_bind (tupleHeldS hz hT fun g1 z1 s1 => ?_)
  simp only [Bool.false_eq_true, if_false]
  refine wpAny_bind ?_
  rw [← Array.forIn_toList]
  simp only [List.forIn_cons, List.forIn_nil]
  refine wpAny_bind (wpAny_bind (wpAny_holding ?_))
  show wpAny _ _ (Builtin.SmallTypes.nextOrEnd (.ref i1)) _ _ _
  refine draw_end hh (h1.on fun o e => s1.extBut _ _ Ti1 e) (hl1.on fun o e => s1.extBut _ _ Ol1 e) hx fun g2 s2 => ?_
  have fin : ∀ (h' : Heap), Kp3 s.heap h' z TO i1 i2 i3 → ∀ (B : PySem.Fin → Shared → Prop), wpAny (model prog w) A (Builtin.SmallTypes.stopIteration (α := PySem.Fin)) B E { s with heap := h' } := fun h' hk B => by
    unfold Builtin.SmallTypes.stopIteration
    show wpAny _ _ (newExc (.type "StopIteration") [] >>= _) _ _ _
    refine wpAny_bind ?_
    simp only [newExc, newTuple]
    refine wpAny_bind (wpAny_newObj_type ?_ (by size_fits))
    refine wpAny_bind (m := firstArgMember _ _) (wpAny_of_eq (a := Value.none) (by first | rfl | (simp only [firstArgMember]; rfl)) ?_)
    refine wpAny_newObj_type ?_ (by size_fits)
    simp only [raiseNew]
    refine wpAny_bind (wpAny_handled ?_)
    rw [hh]
    refine wpAny_bind (wpAny_pure (wpAny_throw ?_))
    exact q _ _ (fun c o n1 n2 n3 n4 n5 e => Heap.get?_push_of_some _ (Heap.get?_push_of_some _ (hk c o n1 n2 n3 n4 n5 e))) ⟨_, Heap.get?_push_size _ rfl, rfl⟩
  have hk3 : Kp3 s.heap g2 z TO i1 i2 i3 := fun c o n1 n2 n3 n4 n5 e => s2 _ _ n3 (s1.extBut _ _ n1 e)
  refine wpAny_bind (wpAny_mono (Q := fun _ _ => False) ?_ (fun _ _ z => z.elim) fun _ _ z => z)
  refine wpAny_bind (Q := fun _ _ => False) (m := forIn ((List.drop 1 [Value.ref i1, Value.ref i2, Value.ref i3]).zipIdx 1) PUnit.unit _) ?_
  simp only [List.drop_succ_cons, List.drop_zero, List.zipIdx_cons, List.zipIdx_nil, List.forIn_cons, List.forIn_nil]
  refine wpAny_bind (wpAny_bind (draw_end hh (h2.on fun o e => s2 _ _ i12.symm (s1.extBut _ _ Ti2 e)) (hl2.on fun o e => s2 _ _ l2i1 (s1.extBut _ _ Ol2 e)) hy fun g4 s4 => ?_))
  refine wpAny_pure ?_
  refine wpAny_bind (wpAny_bind (draw_end hh (h3.on fun o e => s4 _ _ i23.symm (s2 _ _ i13.symm (s1.extBut _ _ Ti3 e))) (hl3.on fun o e => s4 _ _ l3i2 (s2 _ _ l3i1 (s1.extBut _ _ Ol3 e))) hv fun g5 s5 => ?_))
  refine wpAny_pure ?_
  refine wpAny_pure ?_
  refine wpAny_bind (wpAny_rule ?_)
  exact fin g5 (fun c o n1 n2 n3 n4 n5 e => s5 _ _ n5 (s4 _ _ n4 (hk3 c o n1 n2 n3 n4 n5 e))) _
theorem zip3_pyNext {ta tb tc : Bool} {z TI TO i1 i2 i3 l1 l2 l3 : Nat} {k : Nat} {xs ys zs : Array Value} {x y v a b c : Value} {Q : Option Value → Shared → Prop} (D : Z3 z TI TO i1 i2 i3 l1 l2 l3)
    (hz : IsZipS s.heap z TI TO .none) (hTI : IsTri s.heap TI (.ref i1) (.ref i2) (.ref i3)) (hTO : IsTri s.heap TO a b c)
    (h1 : SqI ta s.heap i1 l1 k) (h2 : SqI tb s.heap i2 l2 k) (h3 : SqI tc s.heap i3 l3 k) (hl1 : SqO ta s.heap l1 xs) (hl2 : SqO tb s.heap l2 ys) (hl3 : SqO tc s.heap l3 zs) (hx : xs[k]? = some x) (hy : ys[k]? = some y) (hv : zs[k]? = some v)
    (q : ∀ h', IsZipS h' z TI TO (rawInt s.heap.objs.size) → IsTri h' TO x y v → SqI ta h' i1 l1 (k + 1) → SqI tb h' i2 l2 (k + 1) → SqI tc h' i3 l3 (k + 1) → IsTri h' s.heap.objs.size x y v → h'.objs.size = s.heap.objs.size + 1 →
      Kp3 s.heap h' z TO i1 i2 i3 → Q (some (.ref s.heap.objs.size)) { s with heap := h' }) :
    wpAny (model prog w) A (pyNext (.ref z)) Q E s := by
  have hT : s.TypeIs (.ref z) "zip" := ⟨_, hz, rfl⟩
  unfold pyNext
  refine wpAny_bind (wpAny_attempt (wpAny_callSpecial?_slot (name := Str.ofString "__next__") hT F.slot_zip_next
    (wpAny_call_entry F.slot_zip_next hT F.entry_zip_next (zip3_next D hz hTI hTO h1 h2 h3 hl1 hl2 hl3 hx hy hv fun h' a1 a2 a3 a4 a5 a6 a7 a8 => ?_) (F.args_zip_next_1 _))))
  exact wpAny_pure (q h' a1 a2 a3 a4 a5 a6 a7 a8)
theorem zip3_pyEnd {ta tb tc : Bool} {z TI TO i1 i2 i3 l1 l2 l3 : Nat} {k : Nat} {xs ys zs : Array Value} {a b c : Value} {Q : Option Value → Shared → Prop} (hh : A.handled = none) (D : Z3 z TI TO i1 i2 i3 l1 l2 l3)
    (hz : IsZipS s.heap z TI TO .none) (hTI : IsTri s.heap TI (.ref i1) (.ref i2) (.ref i3)) (hTO : IsTri s.heap TO a b c)
    (h1 : SqI ta s.heap i1 l1 k) (h2 : SqI tb s.heap i2 l2 k) (h3 : SqI tc s.heap i3 l3 k) (hl1 : SqO ta s.heap l1 xs) (hl2 : SqO tb s.heap l2 ys) (hl3 : SqO tc s.heap l3 zs) (hx : xs[k]? = none) (hy : ys[k]? = none) (hv : zs[k]? = none)
    (q : ∀ h', Kp3 s.heap h' z TO i1 i2 i3 → Q none { s with heap := h' }) :
    wpAny (model prog w) A (pyNext (.ref z)) Q E s := by
  have hT : s.TypeIs (.ref z) "zip" := ⟨_, hz, rfl⟩
  unfold pyNext
  refine wpAny_bind (wpAny_attempt (wpAny_callSpecial?_slot (name := Str.ofString "__next__") hT F.slot_zip_next
    (wpAny_call_entry F.slot_zip_next hT F.entry_zip_next (zip3_end hh D hz hTI hTO h1 h2 h3 hl1 hl2 hl3 hx hy hv fun h' e hk he => ?_) (F.args_zip_next_1 _))))
  obtain ⟨o, ho, hc⟩ := he
  refine wpAny_bind (wpAny_isInstance (T := "StopIteration") (b := true) ⟨o, ho, hc⟩ isSubtype_stop ?_)
  exact wpAny_pure (q _ hk)
end
structure ZSt3 (ta tb tc : Bool) (z TI TO i1 i2 i3 l1 l2 l3 lo : Nat) (xs ys zs : Array Value) (i : Nat) (as : List Addr) (h : Heap) : Prop where
  st : (i = 0 ∧ IsZipS h z TI TO .none ∧ ∃ a b c, IsTri h TO a b c) ∨ ∃ T f oT, IsZipH h z TI TO T f ∧ h.get? T = some oT ∧ lo < T
  ti : IsTri h TI (.ref i1) (.ref i2) (.ref i3)
  q1 : SqI ta h i1 l1 i
  q2 : SqI tb h i2 l2 i
  q3 : SqI tc h i3 l3 i
  o1 : SqO ta h l1 xs
  o2 : SqO tb h l2 ys
  o3 : SqO tc h l3 zs
  len : as.length = i
  rise : as.Pairwise (· < ·)
  above : ∀ a ∈ as, lo < a
  trips : ∀ (j : Nat) (a : Addr), as[j]? = some a → ∃ x y v, xs[j]? = some x ∧ ys[j]? = some y ∧ zs[j]? = some v ∧ IsTri h a x y v
  big : lo < h.objs.size
section
variable {prog : Program} {w : World} {A : Around} {E : Value → Shared → Prop} {s : Shared}
variable {ta tb tc : Bool} {z TI TO i1 i2 i3 l1 l2 l3 lo : Nat} {xs ys zs : Array Value} {i : Nat} {as : List Addr}
theorem ZSt3.keep {h h' : Heap} {S : Nat} (x : ZSt3 ta tb tc z TI TO i1 i2 i3 l1 l2 l3 lo xs ys zs i as h) (D : Z3 z TI TO i1 i2 i3 l1 l2 l3) (hk : ∀ b o, b ≠ S → h.get? b = some o → h'.get? b = some o) (hS : S ≤ lo) (n : z < S) (hb : lo < h'.objs.size) : ZSt3 ta tb tc z TI TO i1 i2 i3 l1 l2 l3 lo xs ys zs i as h' := by
  obtain ⟨d2, d3, dT, dO, dz, p1, p2, p3⟩ := D
  refine ⟨?_, hk _ _ (by first | omega | exact an _ _ (by omega)) x.ti, x.q1.on fun o e => hk _ o (by first | omega | exact an _ _ (by omega)) e, x.q2.on fun o e => hk _ o (by first | omega | exact an _ _ (by omega)) e, x.q3.on fun o e => hk _ o (by first | omega | exact an _ _ (by omega)) e, x.o1.on fun o e => hk _ o (by first | omega | exact an _ _ (by omega)) e, x.o2.on fun o e => hk _ o (by first | omega | exact an _ _ (by omega)) e, x.o3.on fun o e => hk _ o (by first | omega | exact an _ _ (by omega)) e, x.len, x.rise, x.above, fun j a hj => ?_, hb⟩
  · rcases x.st with ⟨e, hz, a, b, c, ht⟩ | ⟨T, f, oT, hz, ht, hl⟩
    · exact .inl ⟨e, hk _ _ (by first | omega | exact an _ _ (by omega)) hz, a, b, c, hk _ _ (by first | omega | exact an _ _ (by omega)) ht⟩
    · exact .inr ⟨T, f, oT, hk _ _ (by first | omega | exact an _ _ (by omega)) hz, hk _ _ (fun q => by rw [q] at hl; exact absurd hl (Nat.not_lt.mpr hS)) ht, hl⟩
  · obtain ⟨u, v, r, e1, e2, e3, e4⟩ := x.trips j a hj
    have := x.above a (List.mem_of_getElem? hj)
    exact ⟨u, v, r, e1, e2, e3, hk _ _ (fun q => by rw [q] at this; exact absurd this (Nat.not_lt.mpr hS)) e4⟩
theorem ZSt3.next {Q : Option Value → Shared → Prop} (D : Z3 z TI TO i1 i2 i3 l1 l2 l3) (hb : z ≤ lo) (X : ZSt3 ta tb tc z TI TO i1 i2 i3 l1 l2 l3 lo xs ys zs i as s.heap) (hi : i < xs.size) (hl : xs.size = ys.size) (hl' : xs.size = zs.size)
    (q : ∀ h', ZSt3 ta tb tc z TI TO i1 i2 i3 l1 l2 l3 lo xs ys zs (i + 1) (as ++ [s.heap.objs.size]) h' → Kp3 s.heap h' z TO i1 i2 i3 → Q (some (.ref s.heap.objs.size)) { s with heap := h' }) :
    wpAny (model prog w) A (pyNext (.ref z)) Q E s := by
  obtain ⟨x, hx⟩ : ∃ x, xs[i]? = some x := ⟨_, Array.getElem?_eq_getElem hi⟩
  obtain ⟨y, hy⟩ : ∃ y, ys[i]? = some y := ⟨_, Array.getElem?_eq_getElem (hl ▸ hi)⟩
  obtain ⟨v, hv⟩ : ∃ v, zs[i]? = some v := ⟨_, Array.getElem?_eq_getElem (hl' ▸ hi)⟩
  have D0 := D
  obtain ⟨d2, d3, dT, dO, dz, p1, p2, p3⟩ := D
  have fin : ∀ h', Kp3 s.heap h' z TO i1 i2 i3 → IsTri h' s.heap.objs.size x y v → h'.objs.size = s.heap.objs.size + 1 → SqI ta h' i1 l1 (i + 1) → SqI tb h' i2 l2 (i + 1) → SqI tc h' i3 l3 (i + 1) →
      (∃ T f oT, IsZipH h' z TI TO T f ∧ h'.get? T = some oT ∧ lo < T) → ZSt3 ta tb tc z TI TO i1 i2 i3 l1 l2 l3 lo xs ys zs (i + 1) (as ++ [s.heap.objs.size]) h' := fun h' hk hp hsz c1 c2 c3 hT => by
    have far : ∀ {c : Addr}, lo < c → c ≠ z ∧ c ≠ TO ∧ c ≠ i1 ∧ c ≠ i2 ∧ c ≠ i3 := fun {c} hc => ⟨by first | omega | exact an _ _ (by omega), by first | omega | exact an _ _ (by omega), by first | omega | exact an _ _ (by omega), by first | omega | exact an _ _ (by omega), by first | omega | exact an _ _ (by omega)⟩
    refine ⟨.inr hT, hk _ _ (by first | omega | exact an _ _ (by omega)) (by first | omega | exact an _ _ (by omega)) (by first | omega | exact an _ _ (by omega)) (by first | omega | exact an _ _ (by omega)) (by first | omega | exact an _ _ (by omega)) X.ti, c1, c2, c3, X.o1.on fun o e => hk _ o (by first | omega | exact an _ _ (by omega)) (by first | omega | exact an _ _ (by omega)) (by first | omega | exact an _ _ (by omega)) (by first | omega | exact an _ _ (by omega)) (by first | omega | exact an _ _ (by omega)) e, X.o2.on fun o e => hk _ o (by first | omega | exact an _ _ (by omega)) (by first | omega | exact an _ _ (by omega)) (by first | omega | exact an _ _ (by omega)) (by first | omega | exact an _ _ (by omega)) (by first | omega | exact an _ _ (by omega)) e, X.o3.on fun o e => hk _ o (by first | omega | exact an _ _ (by omega)) (by first | omega | exact an _ _ (by omega)) (by first | omega | exact an _ _ (by omega)) (by first | omega | exact an _ _ (by omega)) (by first | omega | exact an _ _ (by omega)) e, by rw [List.length_append, X.len]; rfl, ?_, ?_, ?_, by rw [hsz]; exact Nat.lt_succ_of_lt X.big⟩
    · refine List.pairwise_append.mpr ⟨X.rise, List.pairwise_singleton _ _, fun a ha b hb => ?_⟩
      rw [List.mem_singleton.mp hb]
      obtain ⟨j, hj⟩ := List.mem_iff_getElem?.mp ha
      obtain ⟨_, _, _, _, _, _, e⟩ := X.trips j a hj
      exact Heap.lt_size e
    · intro a ha
      rcases List.mem_append.mp ha with ha | ha
      · exact X.above a ha
      · rw [List.mem_singleton.mp ha]; exact X.big
    · intro j b hj
      rcases Nat.lt_trichotomy j as.length with h1 | h1 | h1
      · rw [List.getElem?_append_left h1] at hj
        obtain ⟨u, t, r, e1, e2, e3, e4⟩ := X.trips j b hj
        obtain ⟨f1, f2, f3, f4, f5⟩ := far (X.above b (List.mem_of_getElem? hj))
        exact ⟨u, t, r, e1, e2, e3, hk b _ f1 f2 f3 f4 f5 e4⟩
      · subst h1
        have hb : s.heap.objs.size = b := by simpa using hj
        subst hb
        exact ⟨x, y, v, by rw [X.len]; exact hx, by rw [X.len]; exact hy, by rw [X.len]; exact hv, hp⟩
      · have hnone : (as ++ [s.heap.objs.size])[j]? = none := List.getElem?_eq_none (by rw [List.length_append, List.length_singleton]; omega)
        rw [hnone] at hj; cases hj
  rcases X.st with ⟨_, hz, a, b, c, ht⟩ | ⟨T, f, oT, hz, ht, hlo⟩
  · refine zip3_pyNext D0 hz X.ti ht X.q1 X.q2 X.q3 X.o1 X.o2 X.o3 hx hy hv fun h' a1 a2 a3 a4 a8 a5 a6 a7 => q h' (fin h' a7 a5 a6 a3 a4 a8 ⟨s.heap.objs.size, false, _, a1, a5, X.big⟩) a7
  · have hTy : s.TypeIs (.ref z) "zip" := ⟨_, hz, rfl⟩
    unfold pyNext
    refine wpAny_bind (wpAny_attempt (wpAny_callSpecial?_slot (name := Str.ofString "__next__") hTy F.slot_zip_next
      (wpAny_call_entry F.slot_zip_next hTy F.entry_zip_next
        (zip3_nextH D0 hz ht X.ti X.q1 X.q2 X.q3 X.o1 X.o2 X.o3 hx hy hv fun h' a1 a3 a4 a8 a5 a6 a7 => wpAny_pure (q h' (fin h' (fun c o n1 n2 n3 n4 n5 e => a7 c o n1 n3 n4 n5 e) a5 a6 a3 a4 a8 ⟨T, true, oT, a1, a7 _ _ (by first | omega | exact an _ _ (by omega)) (by first | omega | exact an _ _ (by omega)) (by first | omega | exact an _ _ (by omega)) (by first | omega | exact an _ _ (by omega)) ht, hlo⟩) (fun c o n1 n2 n3 n4 n5 e => a7 c o n1 n3 n4 n5 e))) (F.args_zip_next_1 _))))
theorem ZSt3.done {Q : Option Value → Shared → Prop} (hh : A.handled = none) (D : Z3 z TI TO i1 i2 i3 l1 l2 l3) (X : ZSt3 ta tb tc z TI TO i1 i2 i3 l1 l2 l3 lo xs ys zs i as s.heap) (hi : xs.size ≤ i) (hl : xs.size = ys.size) (hl' : xs.size = zs.size)
    (q : ∀ h', Kp3 s.heap h' z TO i1 i2 i3 → Q none { s with heap := h' }) : wpAny (model prog w) A (pyNext (.ref z)) Q E s := by
  have hx : xs[i]? = none := Array.getElem?_eq_none hi
  have hy : ys[i]? = none := Array.getElem?_eq_none (hl ▸ hi)
  have hv : zs[i]? = none := Array.getElem?_eq_none (hl' ▸ hi)
  rcases X.st with ⟨_, hz, a, b, c, ht⟩ | ⟨T, f, oT, hz, ht, hlo⟩
  · exact zip3_pyEnd hh D hz X.ti ht X.q1 X.q2 X.q3 X.o1 X.o2 X.o3 hx hy hv q
  · have hTy : s.TypeIs (.ref z) "zip" := ⟨_, hz, rfl⟩
    unfold pyNext
    refine wpAny_bind (wpAny_attempt (wpAny_callSpecial?_slot (name := Str.ofString "__next__") hTy F.slot_zip_next
      (wpAny_call_entry F.slot_zip_next hTy F.entry_zip_next (zip3_endH hh D hz ht X.ti X.q1 X.q2 X.q3 X.o1 X.o2 X.o3 hx hy hv fun h' e hk he => ?_) (F.args_zip_next_1 _))))
    obtain ⟨o, ho, hc⟩ := he
    refine wpAny_bind (wpAny_isInstance (T := "StopIteration") (b := true) ⟨o, ho, hc⟩ isSubtype_stop ?_)
    exact wpAny_pure (q _ hk)
end
end SV

namespace SV
open PySem PySem.Spec PyProof.Rows L2 RZ
section
variable {prog : Program} {w : World} {A : Around} {E : Value → Shared → Prop} {s : Shared} {R : Result → Shared → Prop}
variable {ta tb tc : Bool} {z TI TO i1 i2 i3 l1 l2 l3 S lo : Nat} {xs ys zs : Array Value}
end
section
variable {prog : Program} {w : World} {A : Around} {E : Value → Shared → Prop} {s : Shared}
end
section
variable {X : Cx}
end

def zipL3 : List D → List D → List D → List D
  | x :: xs, y :: ys, v :: zs => .tup [x, y, v] :: zipL3 xs ys zs
  | _, _, _ => []
section
variable {C : Ct} {a b c : Expr} {H H1 : Hp} {ω ω1 : Om}
def zipSD3 (d d' d'' : D) : Option (List D) := match sqOf d, sqOf d', sqOf d'' with
  | some xs, some ys, some zs => if xs.length = ys.length ∧ xs.length = zs.length then some (zipL3 xs ys zs) else none
  | _, _, _ => none
def lzR3 (oa ob oc : Opd) (x y z : Option D) (s : S) : Rs D := match x, y, z with
  | some d, some d1, some d2 => if okO oa d = true ∧ okO ob d1 = true ∧ okO oc d2 = true then (match zipSD3 (frz d) (frz d1) (frz d2) with
    | some zs => if zs.length ≤ 100000 then .ok (.lst true zs) s else .stuck
    | none => .stuck) else .stuck
  | _, _, _ => .stuck
def kLZ3 (os : List Opd) (s : S) : Rs D := match os with
  | [oa, ob, oc] => lzR3 oa ob oc (getO s oa) (getO s ob) (getO s oc) s
  | _ => .stuck
def eLZ3 (ma mb mc : M Opd) : M D := fun st => (aCons ma (aCons mb (aCons mc aNil)) st).bind kLZ3
end
section
variable {ma mb mc : M Opd} {oa ob oc : Opd} {d e f : D} {st s : S}
theorem q_eLZ3 : eLZ3 ma mb mc st = (aCons ma (aCons mb (aCons mc aNil)) st).bind kLZ3 := (rfl)
theorem q_kLZ3 : kLZ3 [oa, ob, oc] s = lzR3 oa ob oc (getO s oa) (getO s ob) (getO s oc) s := (rfl)
theorem q_lzR3 : lzR3 oa ob oc (some d) (some e) (some f) s = if okO oa d = true ∧ okO ob e = true ∧ okO oc f = true then lzS (zipSD3 (frz d) (frz e) (frz f)) s else .stuck := (rfl)
end
end SV

namespace SV
open PySem PySem.Spec PyProof.Rows L2
section
variable {prog : Program} {w : World} {A : Around} {E : Value → Shared → Prop} {s : Shared}
end
def gRevA (ds : List D) : Option D := match ds with
  | [.lst _ xs, .int i] => if frzdL xs = true ∧ i = -1 then some (.lst true xs.reverse) else none
  | [.ro xs, .int i] => if frzdL xs = true ∧ i = -1 then some (.lst true xs.reverse) else none
  | [.tup xs, .int i] => if frzdL xs = true ∧ i = -1 then some (.tup xs.reverse) else none
  | _ => none
theorem q_gRevAL {o : Bool} {xs : List D} (h : frzdL xs = true) : gRevA [.lst o xs, .int (-1)] = some (.lst true xs.reverse) := by show (if _ then _ else _) = _; rw [if_pos ⟨h, rfl⟩]
theorem q_gRevAR {xs : List D} (h : frzdL xs = true) : gRevA [.ro xs, .int (-1)] = some (.lst true xs.reverse) := by show (if _ then _ else _) = _; rw [if_pos ⟨h, rfl⟩]
theorem q_gRevAT {xs : List D} (h : frzdL xs = true) : gRevA [.tup xs, .int (-1)] = some (.tup xs.reverse) := by show (if _ then _ else _) = _; rw [if_pos ⟨h, rfl⟩]
section
variable {C : Ct} {a st' : Expr} {p2 pos : Pos}
end
end SV

namespace SV
open PySem PySem.Spec PyProof.Rows L2
section
variable {prog : Program} {w : World} {A : Around} {E : Value → Shared → Prop} {s : Shared}
open Srt SrtO in
open Srt SrtO in
end
def gSortT : List D → Option D
  | [.tup xs] => (match intsD xs with
      | some ns => some (.lst true ((isort ns).map .int))
      | none => none)
  | ds => gSorted ds
theorem q_sortTT {xs : List D} : gSortT [.tup xs] = (match intsD xs with
      | some ns => some (.lst true ((isort ns).map .int))
      | none => none) := (rfl)
theorem sortT_ints {ns : List Int} : gSortT [.tup (ns.map D.int)] = some (.lst true ((isort ns).map D.int)) := by
  rw [q_sortTT, intsD_map]
end SV

namespace SV
open PySem PySem.Spec PyProof.Rows L2
def kOrT (n : M D) (d : D) (s : S) : Rs D := match truD d with
  | some true => .ok d s
  | some false => n s
  | none => .stuck
def eOrT (m n : M D) : M D := fun st => (m st).bind (kOrT n)
section
variable {C : Ct} {a b : Expr} {pos : Pos}
end
theorem q_eOrT {m n : M D} {st : S} : eOrT m n st = (m st).bind (kOrT n) := (rfl)
theorem q_kOrTl {n : M D} {o : Bool} {xs : List D} {s : S} : kOrT n (.lst o xs) s = if xs.isEmpty = true then n s else .ok (.lst o xs) s := by
  cases xs <;> rfl
theorem q_kOrTt {n : M D} {xs : List D} {s : S} : kOrT n (.tup xs) s = if xs.isEmpty = true then n s else .ok (.tup xs) s := by
  cases xs <;> rfl
end SV

namespace SV
open PySem PySem.Spec PyProof.Rows L2
def putKs (ks : List Key) (q : Key) : List Key := if (ks.any fun k => decide (k = q)) = true then ks else ks ++ [q]
def putVs {α : Type} (ks : List Key) (xs : List α) (q : Key) (d : α) : List α := if (ks.any fun k => decide (k = q)) = true then List.zipWith (fun k x => if k = q then d else x) ks xs else xs ++ [d]
section
variable {K : PySem.W.Frag} {R : Nat → Bool} {σ0 σ : L2.St} {st : S} {H : Hp} {ω : Om}
end
def eD0 : M D := fun st => .ok (.dct true [] []) st
section
variable {C : Ct} {a b c e : Expr} {pos : Pos} {x : Str}
def dgR (ks : List Key) (xs : List D) (k : Option Key) (d : Option D) (s : S) : Rs D := match k, d with
  | some k, some d => if frzdL xs = true ∧ frzd d = true then .ok ((lookD (ks.zip xs) k).getD d) s else .stuck
  | _, _ => .stuck
def dgD (x : Option D) (k : Option Key) (d : Option D) (s : S) : Rs D := match x with
  | some (.dct _ ks xs) => dgR ks xs k d s
  | _ => .stuck
def kDg (i : Nat) (os : List Opd) (s : S) : Rs D := match os with
  | [ob, oc] => dgD (s[i]?).join ((getO s ob).bind keyD) (getO s oc) s
  | _ => .stuck
def dgS (i : Nat) (mb mc : M Opd) (st : S) (x : Option D) : Rs D := match x with
  | some (.dct _ _ _) => (aCons mb (aCons mc aNil) st).bind (kDg i)
  | _ => .stuck
def eDg (i : Nat) (mb mc : M Opd) : M D := fun st => dgS i mb mc st (st[i]?).join
theorem join_some {o : Option (Option D)} {d : D} (h : o.join = some d) : o = some (some d) := by
  cases o with
  | none => cases h
  | some o => cases o with
    | none => cases h
    | some x => cases h; rfl
def dpS (i : Nat) (k : Option Key) (d : D) (s : S) (x : Option D) : Rs Fl := match x, k with
  | some (.dct true ks xs), some k => if frzdL xs = true ∧ frzd d = true ∧ ks.length ≤ 100000 then .ok .nx (s.set i (some (.dct true (putKs ks k) (putVs ks xs k d)))) else .stuck
  | _, _ => .stuck
def kDp2 (i : Nat) (d : D) (o : Opd) (s : S) : Rs Fl := dpS i ((getO s o).bind keyD) d s (s[i]?).join
def kDp (i : Nat) (mk : M Opd) (d : D) (s : S) : Rs Fl := match (s[i]?).join with
  | some (.dct true _ _) => (mk s).bind (kDp2 i d)
  | _ => .stuck
def sDp (i : Nat) (mk : M Opd) (m : M D) : M Fl := fun st => (m st).bind (kDp i mk)
end
section
variable {i : Nat} {mb mc : M Opd} {m : M D} {st s : S} {o : Bool} {ks : List Key} {xs : List D} {k : Key} {d : D} {ob oc : Opd}
theorem q_eD0 : eD0 st = .ok (.dct true [] []) st := (rfl)
theorem q_eDg : eDg i mb mc st = dgS i mb mc st (st[i]?).join := (rfl)
theorem q_dgS : dgS i mb mc st (some (.dct o ks xs)) = (aCons mb (aCons mc aNil) st).bind (kDg i) := (rfl)
theorem q_kDg : kDg i [ob, oc] s = dgD (s[i]?).join ((getO s ob).bind keyD) (getO s oc) s := (rfl)
theorem q_dgD : dgD (some (.dct o ks xs)) (some k) (some d) s = if frzdL xs = true ∧ frzd d = true then .ok ((lookD (ks.zip xs) k).getD d) s else .stuck := (rfl)
theorem q_sDp : sDp i mb m st = (m st).bind (kDp i mb) := (rfl)
theorem q_kDp : kDp i mb d s = (match (s[i]?).join with
  | some (.dct true _ _) => (mb s).bind (kDp2 i d)
  | _ => .stuck) := (rfl)
theorem q_kDp2 : kDp2 i d oc s = dpS i ((getO s oc).bind keyD) d s (s[i]?).join := (rfl)
theorem q_dpS : dpS i (some k) d s (some (.dct true ks xs)) = if frzdL xs = true ∧ frzd d = true ∧ ks.length ≤ 100000 then .ok .nx (s.set i (some (.dct true (putKs ks k) (putVs ks xs k d)))) else .stuck := (rfl)
end
end SV

namespace SV
open PySem PySem.Spec PyProof.Rows L2
mutual
def bare : D → Bool
  | .non => true
  | .bl _ => true
  | .int _ => true
  | .str _ => true
  | .tup xs => bareL xs
  | _ => false
def bareL : List D → Bool
  | [] => true
  | x :: xs => bare x && bareL xs
end
mutual
theorem Rep.bare {K : PySem.W.Frag} {H H' : Hp} {ω ω' : Om} {τ τ' : List Nat → Own} (ht : TT0 H H') : ∀ {p q d v}, SV.bare d = true → Rep K H ω τ p d v → Rep K H' ω' τ' q d v
  | _, _, _, _, _, .non => .non
  | _, _, _, _, _, .bl => .bl
  | _, _, _, _, _, .int => .int
  | _, _, _, _, _, .str => .str
  | _, _, _, _, z, .fn => by simp [SV.bare] at z
  | _, _, _, _, z, .ty => by simp [SV.bare] at z
  | _, _, _, _, z, .tup h r => .tup (h.elim (fun h => .inl (ht _ _ h)) .inr) (Reps.bare ht (by simpa [SV.bare] using z) r)
  | _, _, _, _, z, .lst _ _ _ => by simp [SV.bare] at z
  | _, _, _, _, z, .ro _ _ => by simp [SV.bare] at z
  | _, _, _, _, z, .dct _ _ _ _ => by simp [SV.bare] at z
  | _, _, _, _, z, .dz _ _ _ _ => by simp [SV.bare] at z
  | _, _, _, _, z, .ins _ _ _ _ => by simp [SV.bare] at z
  | _, _, _, _, z, .xc _ _ _ _ _ => by simp [SV.bare] at z
theorem Reps.bare {K : PySem.W.Frag} {H H' : Hp} {ω ω' : Om} {τ τ' : List Nat → Own} (ht : TT0 H H') : ∀ {p q k j ds vs}, bareL ds = true → Reps K H ω τ p k ds vs → Reps K H' ω' τ' q j ds vs
  | _, _, _, _, _, _, _, .nil => .nil
  | _, _, _, _, _, _, z, .cons h r => by
    simp only [bareL, Bool.and_eq_true] at z
    exact .cons (Rep.bare ht z.1 h) (Reps.bare ht z.2 r)
end
def lnRL (st : S) (r : Rs D) : Rs D := match r with
  | .ok (.lst true xs) _ => if bareL xs = true then .ok (.lst true xs) st else .stuck
  | _ => .stuck
def eLnL (m : M D) : M D := fun st => lnRL st (m (frzS st))
def lnV (ω : Om) : Om := fun a => match ω a with
  | some (.sl _ _) => none
  | some (.res _) => some .oth
  | x => x
theorem lnV_sl {ω : Om} {a : Addr} {i : Nat} {q : List Nat} (h : ω a = some (.sl i q)) : lnV ω a = none := by unfold lnV; rw [h]
theorem lnV_none {ω : Om} {a : Addr} (h : ω a = none) : lnV ω a = none := by unfold lnV; rw [h]
theorem lnV_oth {ω : Om} {a : Addr} (h : ω a = some .oth) : lnV ω a = some .oth := by unfold lnV; rw [h]
def lnC (H : Hp) (ω ω' : Om) : Om := fun a => match H a with
  | some _ => ω a
  | none => match ω' a with
    | some (.res p) => some (.res p)
    | _ => some .oth
theorem lnC_of {H : Hp} {ω ω' : Om} {a : Addr} {u : HO} (h : H a = some u) : lnC H ω ω' a = ω a := by unfold lnC; rw [h]
theorem Sim.lnV {K : PySem.W.Frag} {R : Nat → Bool} {σ0 σ : L2.St} {st : S} {H : Hp} {ω : Om} (s : Sim K R σ0 st σ H ω) : Sim K R σ0 (frzS st) σ H (lnV ω) := by
  refine ⟨by unfold frzS; rw [List.length_map]; exact s.len, fun i d hi => ?_, s.ref_⟩
  unfold frzS at hi
  rw [List.getElem?_map] at hi
  cases q : st[i]? with
  | none => rw [q] at hi; cases hi
  | some o =>
    rw [q] at hi
    cases o with
    | none => cases hi
    | some d0 =>
      cases hi
      obtain ⟨v, e, r⟩ := s.at_ i d0 q
      exact ⟨v, e, r.fz ⟨fun _ _ h => h, fun a u q h e => ⟨h, lnV_sl e⟩, fun a u h e => ⟨h, lnV_none e⟩⟩⟩
theorem Tr.lnC {H H' : Hp} {ω ω' : Om} (t : Tr H (lnV ω) H' ω') : Tr H ω H' (lnC H ω ω') := ⟨t.tup, fun a u h e => by
    refine ⟨(t.keep a u h (e.imp lnV_none lnV_oth)).1, lnC_of h⟩, t.dom⟩
theorem Sim.lnC {K : PySem.W.Frag} {R : Nat → Bool} {σ0 σ : L2.St} {st : S} {H H' : Hp} {ω ω' : Om} (s : Sim K R σ0 st σ H ω) (t : Tr H (SV.lnV ω) H' ω') : Sim K R σ0 st σ H' (SV.lnC H ω ω') :=
  s.mv t.tup (fun a u i q h e => ⟨(t.keep a u h (.inl (lnV_sl e))).1, (lnC_of h).trans e⟩) fun a u h e => ⟨(t.keep a u h (.inl (lnV_none e))).1, (lnC_of h).trans e⟩
def kLnL (st : S) (Q : D → S → Prop) (d : D) (s : S) : Prop := match d with
  | .lst true xs => if bareL xs = true then Q (.lst true xs) st else False
  | _ => False
theorem q_eLnL {m : M D} {st : S} : eLnL m st = lnRL st (m (frzS st)) := (rfl)
theorem q_kLnL {st s : S} {Q : D → S → Prop} {xs : List D} (h : bareL xs = true) : kLnL st Q (.lst true xs) s = Q (.lst true xs) st := by
  show (if bareL xs = true then Q (.lst true xs) st else False) = _
  rw [if_pos h]
theorem Wx_lnL {E : Ex} {st : S} {r : Rs D} {Q : D → S → Prop} : Wx E (lnRL st r) Q = Wx noE r (kLnL st Q) := by
  cases r with
  | ok d s =>
    rw [Wx_ok]
    cases d with
    | lst o xs =>
      cases o with
      | false => exact Wx_stuck
      | true =>
        by_cases hb : bareL xs = true
        · show Wx E (if bareL xs = true then .ok (.lst true xs) st else .stuck) Q = (if bareL xs = true then Q (.lst true xs) st else False)
          rw [if_pos hb, if_pos hb]; exact Wx_ok
        · show Wx E (if bareL xs = true then .ok (.lst true xs) st else .stuck) Q = (if bareL xs = true then Q (.lst true xs) st else False)
          rw [if_neg hb, if_neg hb]; exact Wx_stuck
    | _ => exact Wx_stuck
  | exc x w s => rw [Wx_exc]; exact Wx_stuck
  | stuck => rw [Wx_stuck]; exact Wx_stuck
end SV

namespace SV
open PySem PySem.Spec PyProof.Rows L2
def fldI (f : Str) : List Str → Option Nat
  | [] => none
  | n :: ns => if f = n then some 0 else (fldI f ns).map (· + 1)
section
variable {K : PySem.W.Frag} {R : Nat → Bool} {σ0 σ : L2.St} {st : S} {H : Hp} {ω : Om}
end
end SV

namespace SV
open PySem PySem.Spec PyProof.Rows L2
def fm0R (i k : Nat) (o : Bool) (x : Str) (ns : List Str) (ds : List D) (s : S) : Option (List D × D) → Rs D
  | some (ys, r) => .ok r (s.set i (some (.ins o x ns (ds.set k (.lst true ys)))))
  | none => .stuck
def fm0L (g : List D → Option (List D × D)) (i k : Nat) (o : Bool) (x : Str) (ns : List Str) (ds : List D) (s : S) : Option D → Rs D
  | some (.lst true ys) => fm0R i k o x ns ds s (g ys)
  | _ => .stuck
def fm0K (fl : List (Str × Str)) (f : Str) (g : List D → Option (List D × D)) (i : Nat) (o : Bool) (x : Str) (ns : List Str) (ds : List D) (s : S) : Option Nat → Rs D
  | some k => if fl.contains (x, f) = true then fm0L g i k o x ns ds s (ds[k]?) else .stuck
  | none => .stuck
def fm0I (fl : List (Str × Str)) (f : Str) (g : List D → Option (List D × D)) (i : Nat) (s : S) : Option D → Rs D
  | some (.ins o x ns ds) => fm0K fl f g i o x ns ds s (fldI f ns)
  | _ => .stuck
def eFm0 (fl : List (Str × Str)) (i : Nat) (f : Str) (g : List D → Option (List D × D)) : M D := fun st => fm0I fl f g i st (st[i]?).join
def fm1R (i k : Nat) (o : Bool) (x : Str) (ns : List Str) (ds : List D) (s : S) : Option (List D) → Rs D
  | some ys => .ok .non (s.set i (some (.ins o x ns (ds.set k (.lst true ys)))))
  | none => .stuck
def fm1L (g : List D → D → Option (List D)) (i k : Nat) (o : Bool) (x : Str) (ns : List Str) (ds : List D) (s : S) (d : D) : Option D → Rs D
  | some (.lst true ys) => fm1R i k o x ns ds s (g ys d)
  | _ => .stuck
def fm1K (fl : List (Str × Str)) (f : Str) (g : List D → D → Option (List D)) (i : Nat) (o : Bool) (x : Str) (ns : List Str) (ds : List D) (s : S) (d : D) : Option Nat → Rs D
  | some k => if fl.contains (x, f) = true ∧ frzd d = true then fm1L g i k o x ns ds s d (ds[k]?) else .stuck
  | none => .stuck
def fm1I (fl : List (Str × Str)) (f : Str) (g : List D → D → Option (List D)) (i : Nat) (s : S) : Option D → Option D → Rs D
  | some (.ins o x ns ds), some d => fm1K fl f g i o x ns ds s d (fldI f ns)
  | _, _ => .stuck
def eFm1 (fl : List (Str × Str)) (i : Nat) (f : Str) (g : List D → D → Option (List D)) (j : Nat) : M D := fun st => fm1I fl f g i st (st[i]?).join (st[j]?).join
def fsR (i k : Nat) (o : Bool) (x : Str) (ns : List Str) (ds ys : List D) (d : D) (s : S) : Option Nat → Rs Fl
  | some j => .ok .nx (s.set i (some (.ins o x ns (ds.set k (.lst true (ys.set j d))))))
  | none => .stuck
def fsL (i k : Nat) (o : Bool) (x : Str) (ns : List Str) (ds : List D) (d : D) (kk : Int) (s : S) : Option D → Rs Fl
  | some (.lst true ys) => fsR i k o x ns ds ys d s (ixN ys.length kk)
  | _ => .stuck
def fsK (fl : List (Str × Str)) (f : Str) (i : Nat) (o : Bool) (x : Str) (ns : List Str) (ds : List D) (d : D) (kk : Int) (s : S) : Option Nat → Rs Fl
  | some k => if fl.contains (x, f) = true then fsL i k o x ns ds d kk s (ds[k]?) else .stuck
  | none => .stuck
def fsI (fl : List (Str × Str)) (f : Str) (i : Nat) (d : D) (s : S) : Option D → Option D → Rs Fl
  | some (.ins o x ns ds), some (.int kk) => fsK fl f i o x ns ds d kk s (fldI f ns)
  | _, _ => .stuck
def kFs (fl : List (Str × Str)) (i : Nat) (f : Str) (j : Nat) (d : D) (s : S) : Rs Fl := fsI fl f i d s (s[i]?).join (s[j]?).join
def sFs (fl : List (Str × Str)) (i : Nat) (f : Str) (j : Nat) (m : M D) : M Fl := fun st => (m st).bind (kFs fl i f j)
section
variable {C : Ct} {e : Expr} {x y z f name : Str} {xs : List Str} {fl : List (Str × Str)} {i j : Nat} {p1 p2 p3 p4 pos apos cpos : Pos}
end
end SV

namespace SV
open PySem PySem.Spec PyProof.Rows L2
def setK2 (fl : List (Str × Str)) (i : Nat) (f : Str) (d : D) (s : S) (x : Str) (ns : List Str) (vs : List D) : Option Nat → Rs Fl
  | some k => if (fl.contains (x, f) && decide (ns.length < 900)) = true then .ok .nx (s.set i (some (.ins true x ns (vs.set k d)))) else .stuck
  | none => .stuck
def setF2 (fl : List (Str × Str)) (i : Nat) (f : Str) (d : D) (s : S) : Option D → Rs Fl
  | some (.ins true x ns vs) => setK2 fl i f d s x ns vs (fldI f ns)
  | _ => .stuck
def kSF2 (fl : List (Str × Str)) (i : Nat) (f : Str) (d : D) (s : S) : Rs Fl := setF2 fl i f d s (s[i]?).join
def sFld2 (fl : List (Str × Str)) (i : Nat) (f : Str) (m : M D) : M Fl := fun st => (m st).bind (kSF2 fl i f)
section
variable {C : Ct} {e a b o : Expr} {es : List Expr} {pos p : Pos} {x f : Str} {xs : List Str} {fl : List (Str × Str)} {lv : Nat}
end
end SV

namespace SV
open PySem PySem.Spec PyProof.Rows L2
mutual
def ownd : D → Bool
  | .non => true
  | .bl _ => true
  | .int _ => true
  | .str _ => true
  | .tup xs => owndL xs
  | .lst o xs => o && owndL xs
  | _ => false
def owndL : List D → Bool
  | [] => true
  | x :: xs => ownd x && owndL xs
end
mutual
theorem Rep.ownd {K : PySem.W.Frag} {H : Hp} {ω ω' : Om} {τ : List Nat → Own} (hk : ∀ a u p, H a = some u → ω a = some (τ p) → ω' a = some (τ p)) : ∀ {p d v}, SV.ownd d = true → Rep K H ω τ p d v → Rep K H ω' τ p d v
  | _, _, _, _, .non => .non
  | _, _, _, _, .bl => .bl
  | _, _, _, _, .int => .int
  | _, _, _, _, .str => .str
  | _, _, _, z, .fn => by simp [SV.ownd] at z
  | _, _, _, z, .ty => by simp [SV.ownd] at z
  | _, _, _, z, .tup h r => .tup h (Reps.ownd hk (by simpa [SV.ownd] using z) r)
  | _, .lst o _, _, z, .lst h e r => by
    simp only [SV.ownd, Bool.and_eq_true] at z
    obtain ⟨rfl, z⟩ := z
    exact .lst (o := true) h (hk _ _ _ h e) (Reps.ownd hk z r)
  | _, _, _, z, .ro _ _ => by simp [SV.ownd] at z
  | _, _, _, z, .dct _ _ _ _ => by simp [SV.ownd] at z
  | _, _, _, z, .dz _ _ _ _ => by simp [SV.ownd] at z
  | _, _, _, z, .ins _ _ _ _ => by simp [SV.ownd] at z
  | _, _, _, z, .xc _ _ _ _ _ => by simp [SV.ownd] at z
theorem Reps.ownd {K : PySem.W.Frag} {H : Hp} {ω ω' : Om} {τ : List Nat → Own} (hk : ∀ a u p, H a = some u → ω a = some (τ p) → ω' a = some (τ p)) : ∀ {p k ds vs}, owndL ds = true → Reps K H ω τ p k ds vs → Reps K H ω' τ p k ds vs
  | _, _, _, _, _, .nil => .nil
  | _, _, _, _, z, .cons h r => by
    simp only [owndL, Bool.and_eq_true] at z
    exact .cons (Rep.ownd hk z.1 h) (Reps.ownd hk z.2 r)
end
def lnRO (st : S) (r : Rs D) : Rs D := match r with
  | .ok d _ => if ownd d = true then .ok d st else .stuck
  | _ => .stuck
def eLnO (m : M D) : M D := fun st => lnRO st (m (frzS st))
def kLnO (st : S) (Q : D → S → Prop) (d : D) (s : S) : Prop := if ownd d = true then Q d st else False
theorem q_eLnO {m : M D} {st : S} : eLnO m st = lnRO st (m (frzS st)) := (rfl)
theorem q_kLnO {st s : S} {Q : D → S → Prop} {d : D} (h : ownd d = true) : kLnO st Q d s = Q d st := by
  unfold kLnO; rw [if_pos h]
theorem Wx_lnO {E : Ex} {st : S} {r : Rs D} {Q : D → S → Prop} : Wx E (lnRO st r) Q = Wx noE r (kLnO st Q) := by
  cases r with
  | ok d s =>
    rw [Wx_ok]
    by_cases hb : ownd d = true
    · show Wx E (if ownd d = true then .ok d st else .stuck) Q = (if ownd d = true then Q d st else False)
      rw [if_pos hb, if_pos hb]; exact Wx_ok
    · show Wx E (if ownd d = true then .ok d st else .stuck) Q = (if ownd d = true then Q d st else False)
      rw [if_neg hb, if_neg hb]; exact Wx_stuck
  | exc x w s => rw [Wx_exc]; exact Wx_stuck
  | stuck => rw [Wx_stuck]; exact Wx_stuck
theorem ow_non : ownd .non = true := (rfl)
theorem ow_bl {b : Bool} : ownd (.bl b) = true := (rfl)
theorem ow_int {b : Int} : ownd (.int b) = true := (rfl)
theorem ow_str {b : Str} : ownd (.str b) = true := (rfl)
theorem ow_tup {xs : List D} : ownd (.tup xs) = owndL xs := (rfl)
theorem ow_lst {xs : List D} : ownd (.lst true xs) = owndL xs := by simp [ownd]
theorem ow_nil : owndL [] = true := (rfl)
theorem ow_cons {x : D} {xs : List D} : owndL (x :: xs) = (ownd x && owndL xs) := (rfl)
theorem q_eFm0 {fl : List (Str × Str)} {i : Nat} {f : Str} {g : List D → Option (List D × D)} {st : S} : eFm0 fl i f g st = fm0I fl f g i st (st[i]?).join := (rfl)
theorem q_fm0I {fl : List (Str × Str)} {i : Nat} {f x : Str} {g : List D → Option (List D × D)} {o : Bool} {ns : List Str} {ds : List D} {s : S} : fm0I fl f g i s (some (.ins o x ns ds)) = fm0K fl f g i o x ns ds s (fldI f ns) := (rfl)
theorem q_fm0K {fl : List (Str × Str)} {i k : Nat} {f x : Str} {g : List D → Option (List D × D)} {o : Bool} {ns : List Str} {ds : List D} {s : S} : fm0K fl f g i o x ns ds s (some k) = if fl.contains (x, f) = true then fm0L g i k o x ns ds s (ds[k]?) else .stuck := (rfl)
theorem q_fm0L {i k : Nat} {x : Str} {g : List D → Option (List D × D)} {o : Bool} {ns : List Str} {ds ys : List D} {s : S} : fm0L g i k o x ns ds s (some (.lst true ys)) = fm0R i k o x ns ds s (g ys) := (rfl)
theorem q_fm0R {i k : Nat} {x : Str} {r : D} {o : Bool} {ns : List Str} {ds ys : List D} {s : S} : fm0R i k o x ns ds s (some (ys, r)) = .ok r (s.set i (some (.ins o x ns (ds.set k (.lst true ys))))) := (rfl)
theorem q_eFm1 {fl : List (Str × Str)} {i j : Nat} {f : Str} {g : List D → D → Option (List D)} {st : S} : eFm1 fl i f g j st = fm1I fl f g i st (st[i]?).join (st[j]?).join := (rfl)
theorem q_fm1I {fl : List (Str × Str)} {i : Nat} {f x : Str} {g : List D → D → Option (List D)} {o : Bool} {ns : List Str} {ds : List D} {d : D} {s : S} : fm1I fl f g i s (some (.ins o x ns ds)) (some d) = fm1K fl f g i o x ns ds s d (fldI f ns) := (rfl)
theorem q_fm1K {fl : List (Str × Str)} {i k : Nat} {f x : Str} {g : List D → D → Option (List D)} {o : Bool} {ns : List Str} {ds : List D} {d : D} {s : S} : fm1K fl f g i o x ns ds s d (some k) = if fl.contains (x, f) = true ∧ frzd d = true then fm1L g i k o x ns ds s d (ds[k]?) else .stuck := (rfl)
theorem q_fm1L {i k : Nat} {x : Str} {g : List D → D → Option (List D)} {o : Bool} {ns : List Str} {ds ys : List D} {d : D} {s : S} : fm1L g i k o x ns ds s d (some (.lst true ys)) = fm1R i k o x ns ds s (g ys d) := (rfl)
theorem q_fm1R {i k : Nat} {x : Str} {o : Bool} {ns : List Str} {ds ys : List D} {s : S} : fm1R i k o x ns ds s (some ys) = .ok .non (s.set i (some (.ins o x ns (ds.set k (.lst true ys))))) := (rfl)
theorem q_sFs {fl : List (Str × Str)} {i j : Nat} {f : Str} {m : M D} {st : S} : sFs fl i f j m st = (m st).bind (kFs fl i f j) := (rfl)
theorem q_kFs {fl : List (Str × Str)} {i j : Nat} {f : Str} {d : D} {s : S} : kFs fl i f j d s = fsI fl f i d s (s[i]?).join (s[j]?).join := (rfl)
theorem q_fsI {fl : List (Str × Str)} {i : Nat} {f x : Str} {d : D} {o : Bool} {ns : List Str} {ds : List D} {kk : Int} {s : S} : fsI fl f i d s (some (.ins o x ns ds)) (some (.int kk)) = fsK fl f i o x ns ds d kk s (fldI f ns) := (rfl)
theorem q_fsK {fl : List (Str × Str)} {i k : Nat} {f x : Str} {d : D} {o : Bool} {ns : List Str} {ds : List D} {kk : Int} {s : S} : fsK fl f i o x ns ds d kk s (some k) = if fl.contains (x, f) = true then fsL i k o x ns ds d kk s (ds[k]?) else .stuck := (rfl)
theorem q_fsL {i k : Nat} {x : Str} {d : D} {o : Bool} {ns : List Str} {ds ys : List D} {kk : Int} {s : S} : fsL i k o x ns ds d kk s (some (.lst true ys)) = fsR i k o x ns ds ys d s (ixN ys.length kk) := (rfl)
theorem q_fsR {i k j : Nat} {x : Str} {d : D} {o : Bool} {ns : List Str} {ds ys : List D} {s : S} : fsR i k o x ns ds ys d s (some j) = .ok .nx (s.set i (some (.ins o x ns (ds.set k (.lst true (ys.set j d)))))) := (rfl)
theorem q_sFld2 {fl : List (Str × Str)} {i : Nat} {f : Str} {m : M D} {st : S} : sFld2 fl i f m st = (m st).bind (kSF2 fl i f) := (rfl)
theorem q_kSF2 {fl : List (Str × Str)} {i : Nat} {f : Str} {d : D} {s : S} : kSF2 fl i f d s = setF2 fl i f d s (s[i]?).join := (rfl)
theorem q_setF2 {fl : List (Str × Str)} {i : Nat} {f x : Str} {d : D} {ns : List Str} {vs : List D} {s : S} : setF2 fl i f d s (some (.ins true x ns vs)) = setK2 fl i f d s x ns vs (fldI f ns) := (rfl)
theorem q_setK2 {fl : List (Str × Str)} {i k : Nat} {f x : Str} {d : D} {ns : List Str} {vs : List D} {s : S} : setK2 fl i f d s x ns vs (some k) = if (fl.contains (x, f) && decide (ns.length < 900)) = true then .ok .nx (s.set i (some (.ins true x ns (vs.set k d)))) else .stuck := (rfl)
theorem q_fldI {f n : Str} {ns : List Str} : fldI f (n :: ns) = if f = n then some 0 else (fldI f ns).map (· + 1) := (rfl)
end SV

namespace SV
open PySem PySem.Spec PyProof.Rows L2
section
variable {C : Ct} {e : Expr} {es : List Expr} {pos p : Pos} {x : Str} {lv : Nat}
end
end SV

namespace SV
open PySem PySem.Spec PyProof.Rows L2
end SV

namespace SV
open PySem PySem.Spec PyProof.Rows L2
section
variable {i k m : Nat} {H1 : Hp} {ω1 ω : Om} {b : Addr}
end
section
variable {C : Ct} {e : Expr} {es : List Expr} {pos p : Pos} {x y z f1 f2 : Str} {lv : Nat} {xs : List Str} {fl : List (Str × Str)} {i : Nat} {p1 p2 p3 p4 : Pos}
end
end SV

namespace SV
open PySem PySem.Spec PyProof.Rows L2
section
variable {C : Ct} {x y z f1 f2 : Str} {lv : Nat} {xs : List Str} {fl : List (Str × Str)} {i : Nat} {p1 p2 p3 p4 pos p : Pos}
end
end SV

set_option exponentiation.threshold 4000
namespace SV
open PySem PySem.Spec PyProof.Rows L2
end SV

namespace SV
open PySem PySem.Spec PyProof.Rows L2
def putZs (ks : List ZD.ZK) (q : ZD.ZK) : List ZD.ZK := if (ks.any fun k => decide (k = q)) = true then ks else ks ++ [q]
def putZv {α : Type} (ks : List ZD.ZK) (xs : List α) (q : ZD.ZK) (d : α) : List α := if (ks.any fun k => decide (k = q)) = true then List.zipWith (fun k x => if k = q then d else x) ks xs else xs ++ [d]
section
variable {K : PySem.W.Frag} {R : Nat → Bool} {σ0 σ : L2.St} {st : S} {H : Hp} {ω : Om}
end
def lookZ (ks : List ZD.ZK) (xs : List D) (k : ZD.ZK) : Option D := ((ks.zip xs).find? fun kv => decide (kv.1 = k)).map (·.2)
def hasZ (ks : List ZD.ZK) (k : ZD.ZK) : Bool := ks.any fun x => decide (x = k)
def zkD : Option D → Option D → Option ZD.ZK
  | some (.int n), some (.bl t) => some (n, t)
  | _, _ => none
def eZ0 : M D := fun st => .ok (.dz true [] []) st
def zniR (x : Option D) (k : Option ZD.ZK) (s : S) : Rs D := match x, k with
  | some (.dz _ ks _), some k => .ok (.bl (!hasZ ks k)) s
  | _, _ => .stuck
def eZni (i i1 i2 : Nat) : M D := fun st => zniR (st[i]?).join (zkD (st[i1]?).join (st[i2]?).join) st
def zgO (d : Option D) (s : S) : Rs D := match d with
  | some d => if frzd d = true then .ok d s else .stuck
  | none => .stuck
def zgR (x : Option D) (k : Option ZD.ZK) (s : S) : Rs D := match x, k with
  | some (.dz _ ks xs), some k => zgO (lookZ ks xs k) s
  | _, _ => .stuck
def eZg (i i1 i2 : Nat) : M D := fun st => zgR (st[i]?).join (zkD (st[i1]?).join (st[i2]?).join) st
def zpR (i : Nat) (d : D) (x : Option D) (k : Option ZD.ZK) (s : S) : Rs Fl := match x, k with
  | some (.dz true ks xs), some k => if frzdL xs = true ∧ frzd d = true ∧ ks.length ≤ 100000 then .ok .nx (s.set i (some (.dz true (putZs ks k) (putZv ks xs k d)))) else .stuck
  | _, _ => .stuck
def kZp (i i1 i2 : Nat) (d : D) (s : S) : Rs Fl := zpR i d (s[i]?).join (zkD (s[i1]?).join (s[i2]?).join) s
def sZp (i i1 i2 : Nat) (m : M D) : M Fl := fun st => (m st).bind (kZp i i1 i2)
section
variable {C : Ct} {e : Expr} {pos : Pos} {x x1 x2 : Str} {i i1 i2 : Nat}
end
section
variable {m : M D} {st s : S} {o : Bool} {ks : List ZD.ZK} {xs : List D} {k : ZD.ZK} {d : D} {i i1 i2 : Nat} {n : Int} {t : Bool}
theorem q_eZ0 : eZ0 st = .ok (.dz true [] []) st := (rfl)
theorem q_zkD : zkD (some (.int n)) (some (.bl t)) = some (n, t) := (rfl)
theorem q_eZni : eZni i i1 i2 st = zniR (st[i]?).join (zkD (st[i1]?).join (st[i2]?).join) st := (rfl)
theorem q_zniR : zniR (some (.dz o ks xs)) (some k) s = .ok (.bl (!hasZ ks k)) s := (rfl)
theorem q_eZg : eZg i i1 i2 st = zgR (st[i]?).join (zkD (st[i1]?).join (st[i2]?).join) st := (rfl)
theorem q_zgR : zgR (some (.dz o ks xs)) (some k) s = zgO (lookZ ks xs k) s := (rfl)
theorem q_zgO : zgO (some d) s = if frzd d = true then .ok d s else .stuck := (rfl)
theorem q_sZp : sZp i i1 i2 m st = (m st).bind (kZp i i1 i2) := (rfl)
theorem q_kZp : kZp i i1 i2 d s = zpR i d (s[i]?).join (zkD (s[i1]?).join (s[i2]?).join) s := (rfl)
theorem q_zpR : zpR i d (some (.dz true ks xs)) (some k) s = if frzdL xs = true ∧ frzd d = true ∧ ks.length ≤ 100000 then .ok .nx (s.set i (some (.dz true (putZs ks k) (putZv ks xs k d)))) else .stuck := (rfl)
end
end SV

namespace SV
open PySem PySem.Spec PyProof.Rows L2
def hasK (ks : List Key) (k : Key) : Bool := ks.any fun x => decide (x = k)
def dniR (x : Option D) (k : Option Key) (s : S) : Rs D := match x, k with
  | some (.dct _ ks _), some k => .ok (.bl (!hasK ks k)) s
  | _, _ => .stuck
def eDni (i j : Nat) : M D := fun st => dniR (st[i]?).join ((st[j]?).join.bind keyD) st
section
variable {C : Ct} {pos : Pos} {x y : Str} {i j : Nat}
end
section
variable {st s : S} {o : Bool} {ks : List Key} {xs : List D} {k : Key} {i j : Nat}
theorem q_eDni : eDni i j st = dniR (st[i]?).join ((st[j]?).join.bind keyD) st := (rfl)
theorem q_dniR : dniR (some (.dct o ks xs)) (some k) s = .ok (.bl (!hasK ks k)) s := (rfl)
end
end SV

namespace SV
open PySem PySem.Spec PyProof.Rows L2
section
variable {K : PySem.W.Frag} {R : Nat → Bool} {σ0 σ : L2.St} {st : S} {H : Hp} {ω : Om}
end
section
variable {C : Ct} {e : Expr} {pos : Pos} {y x1 x2 f : Str} {xs : List Str} {fl : List (Str × Str)} {i i1 i2 : Nat}
end
section
variable {m : M D} {st s : S} {o : Bool} {ks : List ZD.ZK} {xs : List D} {k : ZD.ZK} {d : D} {i i1 i2 kf : Nat} {f x : Str} {fl : List (Str × Str)} {ns : List Str} {ds : List D}
end
end SV

namespace SV
open PySem PySem.Spec PyProof.Rows L2
def pairD : D → Option (Key × D)
  | .tup [a, d] => (keyD a).map fun k => (k, d)
  | _ => none
def pairsD : List D → Option (List (Key × D))
  | [] => some []
  | x :: xs => match pairD x, pairsD xs with
    | some kd, some r => some (kd :: r)
    | _, _ => none
def mrgF {α : Type} (ks : List Key) (xs : List α) : List (Key × α) → List Key × List α
  | [] => (ks, xs)
  | kd :: r => mrgF (putKs ks kd.1) (putVs ks xs kd.1 kd.2) r
def dictO (ok : Bool) : Option (List (Key × D)) → Option D
  | some kds => if ok = true then some (.dct true (mrgF [] [] kds).1 (mrgF [] [] kds).2) else none
  | none => none
def gDictP : List D → Option D
  | [.lst _ xs] => dictO (frzdL xs) (pairsD xs)
  | _ => none
theorem q_gDictP {o : Bool} {xs : List D} : gDictP [.lst o xs] = dictO (frzdL xs) (pairsD xs) := (rfl)
end SV

namespace SV
open PySem PySem.Spec PyProof.Rows L2
section
variable {K : PySem.W.Frag} {H : Hp} {ω : Om} {τ : List Nat → Own} {p : List Nat}
end
end SV

namespace SV
open PySem PySem.Spec PyProof.Rows L2
section
variable {X : Cx} {W : WX} {e : Expr} {x : Str} {p pos : Pos} {t : TA} {σ : L2.St} {H : Hp} {s : Shared} {pins : List (Addr × Obj)} {Q : VK} {k : Nat} {f a C dx : Addr} {fd : FuncData} {ps : List Str} {sp : Sp} {fs : List (Str × V)}
end
section
variable {C : Ct} {e : Expr} {x : Str} {xs : List Str} {fl : List (Str × Str)} {p pos : Pos}
end
section
variable {st s : S} {o : Opd} {tab : MTab} {ms : M (List Opd)} {x t : Str} {b : Bool} {ns : List Str} {ds : List D} {y : List Bool × (List D → Cr)}
end
end SV

namespace SV
open PySem PySem.Spec PyProof.Rows L2
section
variable {C : Ct}
inductive SJ (C : Ct) : List Expr → List (M D) → Prop
  | nil : SJ C [] []
  | cons {e : Expr} {m : M D} {es : List Expr} {ms : List (M D)} (h : SE C e m) (r : SJ C es ms) : SJ C (e :: es) (m :: ms)
end
section
variable {st s : S} {m : M D} {ms : List (M D)} {acc y : Str} {i : Int} {n : Str → M D}
end
end SV

namespace SV
open PySem PySem.Spec PyProof.Rows L2
end SV

namespace L2
open PySem PySem.Spec PyProof.Rows
end L2
namespace SV
open PySem PySem.Spec PyProof.Rows L2
theorem call_repr_str {X : Cx} : CallR X (.builtin "repr") (fun xs H Q => ∃ z, xs = [.str z] ∧ (reprText z).length ≤ sizeLine ∧ Q (.str (reprText z)) H) := by
  intro pins s σ H xs us Q I r h
  obtain ⟨z, rfl, hz, q⟩ := h
  obtain ⟨u, rfl, t, rfl⟩ := vals1 r
  exact PySem.P.repr_of_str ⟨.str _, H, I.tok _, ⟨_, rfl⟩, q⟩ hz
theorem call_repr_bool {X : Cx} : CallR X (.builtin "repr") (fun xs H Q => ∃ b, xs = [.bl b] ∧ Q (.str (if b then "True" else "False")) H) := by
  intro pins s σ H xs us Q I r h
  obtain ⟨b, rfl, q⟩ := h
  obtain ⟨u, rfl, rv⟩ := vals1 r
  cases rv
  exact PySem.P.repr_of_bool ⟨.str _, H, I.tok _, ⟨_, rfl⟩, q⟩
theorem call_repr_non {X : Cx} : CallR X (.builtin "repr") (fun xs H Q => xs = [.non] ∧ Q (.str "None") H) := by
  intro pins s σ H xs us Q I r h
  obtain ⟨rfl, q⟩ := h
  obtain ⟨u, rfl, rv⟩ := vals1 r
  cases rv
  exact PySem.P.repr_of_none ⟨.str _, H, I.tok _, ⟨_, rfl⟩, q⟩
def fReprA : List D → Option D
  | [.non] => some (.str "None")
  | [.bl b] => some (.str (if b then "True" else "False"))
  | [.str z] => if (reprText z).length ≤ 100000 then some (.str (reprText z)) else none
  | [d] => fRepr [d]
  | _ => none
theorem sn_reprA {X : Cx} (hg : X.A.guards = some []) (hu : X.A.units + 64 < cLine) : ScN X (.builtin "repr") fReprA := by
  intro H ds vs r hv e
  unfold fReprA at e
  split at e
  · obtain ⟨v, _, rfl, h1, rfl⟩ := hv
    cases e
    exact ⟨_, rfl, fun Q q => ⟨_, call_repr_non, by rw [h1.non], q⟩⟩
  · obtain ⟨v, _, rfl, h1, rfl⟩ := hv
    cases e
    exact ⟨_, rfl, fun Q q => ⟨_, call_repr_bool, _, by rw [h1.bl], q⟩⟩
  · obtain ⟨v, _, rfl, h1, rfl⟩ := hv
    split at e
    · rename_i hz
      cases e
      exact ⟨_, rfl, fun Q q => ⟨_, call_repr_str, _, by rw [h1.str], Nat.le_trans hz (by decide), q⟩⟩
    · cases e
  · exact sn_repr hg hu H _ vs r hv e
  · cases e
end SV

namespace SV
open PySem PySem.Spec PyProof.Rows L2
section
variable {C : Ct} {lv : Nat}
end
end SV

namespace SV
open PySem PySem.Spec PyProof.Rows L2
section
variable {K : PySem.W.Frag} {R : Nat → Bool} {σ0 σ : L2.St} {st : S} {H H1 : Hp} {ω ω1 : Om}
end
section
variable {C : Ct} {pos : Pos} {xs : List Str} {lv : Nat}
end
section
variable {X : Cx} {n y : Str} {t : Expr} {mt : Value → Option Bool} {i j : Nat} {body : List Stmt} {py pe pa pos pos' : Pos} {tb : WX → TS} {Wout : WX}
end
section
variable {C : Ct} {pos : Pos} {xs : List Str} {lv : Nat}
end
end SV

namespace SV
open PySem PySem.Spec PyProof.Rows L2
def MTK (C : Ct) (lv : Nat) (xs : List Str) (m : Str) (n : Nat) (ks : List Str) (dcs : List D) (pl : List Nat) : MTab → Prop
  | [] => True
  | q :: r => (q.1 ∈ xs ∧ ∃ k f fd ps, k ≤ lv ∧ Meth C.X.K (He.ga C.X.K q.1) m f ∧ FnG C.X.prog C.X.w C.X.K C.X.mg C.X.base (L2.CX C.X.prog C.X.w) k f fd ps (spF C.X.K q.2.1 q.2.2) ∧ KB C.X.K fd ps (n + 1) ks dcs (0 :: pl.map (· + 1))) ∧ MTK C lv xs m n ks dcs pl r
theorem MTK.at {C : Ct} {lv : Nat} {xs : List Str} {m x : Str} {n : Nat} {ks : List Str} {dcs : List D} {pl : List Nat} {tab : MTab} {y : List Bool × (List D → Cr)} : MTK C lv xs m n ks dcs pl tab → tabAt x tab = some y → x ∈ xs ∧ ∃ k f fd ps, k ≤ lv ∧ Meth C.X.K (He.ga C.X.K x) m f ∧ FnG C.X.prog C.X.w C.X.K C.X.mg C.X.base (L2.CX C.X.prog C.X.w) k f fd ps (spF C.X.K y.1 y.2) ∧ KB C.X.K fd ps (n + 1) ks dcs (0 :: pl.map (· + 1)) := by
  induction tab with
  | nil => intro _ h; cases h
  | cons q r ih =>
    intro hm h
    unfold tabAt at h
    split at h
    · rename_i e
      cases h
      subst e
      exact hm.1
    · exact ih hm.2 h
section
variable {X : Cx} {W : WX} {n : Nat} {ks : List Str} {dcs : List D} {pl : List Nat} {o e : Expr} {es : List Expr} {kws : List Keyword} {m : Str} {pos apos : Pos} {ta : TE}
end
section
variable {C : Ct} {lv n : Nat} {xs : List Str} {fl : List (Str × Str)} {ks : List Str} {dcs : List D} {pl : List Nat} {o e : Expr} {es kes : List Expr} {kws : List Keyword} {m : Str} {pos apos : Pos}
end
end SV

namespace SV
open PySem PySem.Spec PyProof.Rows L2
def TkR (K : PySem.W.Frag) (H : Hp) (ω : Om) : List (Nat × Nat) → List D → List V → Prop
  | [], [], [] => True
  | p :: ps, d :: ds, v :: vs => Rep K H ω (.sl p.1) [p.2] d v ∧ (∃ a us, H a = some (.lst us) ∧ ω a = some (.sl p.1 [])) ∧ TkR K H ω ps ds vs
  | _, _, _ => False
section
variable {C : Ct}
theorem TkR.at {K : PySem.W.Frag} {H : Hp} {ω : Om} : ∀ {ps : List (Nat × Nat)} {ds : List D} {vs : List V} {n : Nat}, TkR K H ω ps ds vs → n < ds.length → ∃ p d v, ps[n]? = some p ∧ ds[n]? = some d ∧ vs[n]? = some v ∧ Rep K H ω (.sl p.1) [p.2] d v
  | [], [], [], _, _, h => absurd h (Nat.not_lt_zero _)
  | p :: ps, d :: ds, v :: vs, 0, t, _ => ⟨p, d, v, rfl, rfl, rfl, t.1⟩
  | p :: ps, d :: ds, v :: vs, n + 1, t, h => by
    obtain ⟨p', d', v', a, b, c, r⟩ := TkR.at (n := n) t.2.2 (Nat.lt_of_succ_lt_succ h)
    exact ⟨p', d', v', by simpa using a, by simpa using b, by simpa using c, r⟩
  | [], [], _ :: _, _, t, _ => t.elim
  | [], _ :: _, _, _, t, _ => t.elim
  | _ :: _, [], _, _, t, _ => t.elim
  | _ :: _, _ :: _, [], _, t, _ => t.elim
theorem TkR.len {K : PySem.W.Frag} {H : Hp} {ω : Om} : ∀ {ps : List (Nat × Nat)} {ds : List D} {vs : List V}, TkR K H ω ps ds vs → vs.length = ds.length
  | [], [], [], _ => rfl
  | p :: ps, d :: ds, v :: vs, t => congrArg (· + 1) (TkR.len t.2.2)
  | [], [], _ :: _, t => t.elim
  | [], _ :: _, _, t => t.elim
  | _ :: _, [], _, t => t.elim
  | _ :: _, _ :: _, [], t => t.elim
end
end SV

namespace SV
open PySem PySem.Spec PyProof.Rows L2
section
variable {C : Ct} {a : Expr} {pos : Pos}
end
end SV

namespace SV
open PySem PySem.Spec PyProof.Rows L2
section
variable {C : Ct} {e : Expr} {pos p : Pos} {x : Str} {xs : List Str} {lv : Nat}
end
end SV

namespace SV
open PySem PySem.Spec PyProof.Rows L2
def kLcMv (i v : Nat) (t : M Bool) (m : M D) (o : Option (Option D)) (st : S) : Rs D := match o with
  | some (some (.lst true xs)) => if xs.length ≤ 100000 then (lcL [v] (gN v) t m xs ((st.set i none).set v none)).bind fun ds s' => .ok (.lst true ds) s' else .stuck
  | _ => .stuck
def eLcMv (i v : Nat) (t : M Bool) (m : M D) : M D := fun st => kLcMv i v t m (st[i]?) st
theorem q_eLcMv {i v : Nat} {t : M Bool} {m : M D} {st : S} : eLcMv i v t m st = kLcMv i v t m (st[i]?) st := (rfl)
theorem q_kLcMv {i v : Nat} {t : M Bool} {m : M D} {xs : List D} {st : S} (h : xs.length ≤ 100000) : kLcMv i v t m (some (some (.lst true xs))) st = (lcL [v] (gN v) t m xs ((st.set i none).set v none)).bind kLcE := by
  show (if xs.length ≤ 100000 then _ else _) = _
  rw [if_pos h]
  rfl
def SGM (C : Ct) (tg : Expr) (v : Nat) : Prop := ∀ (w : V) (σ : L2.St) (H : Hp) (Q : L2.St → Hp → Prop), Q (σ.set v (some w)) H → WG C.X tg w σ H Q
theorem sgm_n {C : Ct} {lv : Nat} {x : Str} (k : C.Ok lv) (i : Nat) {pos : Pos} (hi : C.X.N[i]? = some x := by rfl) (hx : Loc C.X.env.scope x := by first | exact Or.inl rfl | exact Or.inr rfl)
    (hf : C.X.fn x = true ∨ C.X.env.scope.names.lookup x = some .local := by first | exact .inl rfl | exact .inr rfl) : SGM C (.Name x pos) i := fun w σ H Q q => ⟨_, pg_name k.nd hi hx hf, q⟩
def tkS (i k v : Nat) (H : Hp) (ω : Om) (ω2 : Om) : Om := fun a => match H a, ω a with
  | some _, some (.sl j (n :: q)) => if j = i ∧ n = k then some (.sl v q) else ω2 a
  | _, _ => ω2 a
section
variable {H H2 : Hp} {ω ω2 : Om} {i k v : Nat} {a : Addr}
theorem tkS_hit {u : HO} {q : List Nat} (h : H a = some u) (e : ω a = some (.sl i (k :: q))) : tkS i k v H ω ω2 a = some (.sl v q) := by
  unfold tkS; rw [h, e]; simp
theorem tkS_ne (h : ∀ q, ω a ≠ some (.sl i (k :: q))) : tkS i k v H ω ω2 a = ω2 a := by
  unfold tkS
  split
  · rename_i hh he
    split
    · rename_i hc
      obtain ⟨rfl, rfl⟩ := hc
      exact absurd he (h _)
    · rfl
  · rfl
theorem tkS_no (h : H a = none) : tkS i k v H ω ω2 a = ω2 a := by unfold tkS; rw [h]
theorem tkS_alt : (∃ u q, H a = some u ∧ ω a = some (.sl i (k :: q)) ∧ tkS i k v H ω ω2 a = some (.sl v q) ∧ ∀ ω3, tkw i k H ω ω3 a = some (.res q)) ∨ (tkS i k v H ω ω2 a = ω2 a ∧ ∀ ω3, tkw i k H ω ω3 a = ω3 a) := by
  by_cases hh : ∃ q', ω a = some (.sl i (k :: q')) ∧ H a ≠ none
  · obtain ⟨q', h1, h2⟩ := hh
    cases hc : H a with
    | none => exact absurd hc h2
    | some u' => exact .inl ⟨u', q', rfl, h1, tkS_hit hc h1, fun ω3 => tkw_hit hc h1⟩
  · cases hc : H a with
    | none => exact .inr ⟨tkS_no hc, fun ω3 => tkw_no hc⟩
    | some u' => exact .inr ⟨tkS_ne fun q' z => hh ⟨q', z, by rw [hc]; exact fun z => nomatch z⟩, fun ω3 => tkw_ne fun q' z => hh ⟨q', z, by rw [hc]; exact fun z => nomatch z⟩⟩
end
section
variable {C : Ct} {pos p2 : Pos} {y : Str} {elt tg : Expr} {ifs : List Expr} {scope : Scope} {lv : Nat}
theorem se_lcMv (k : C.Ok lv) (i v : Nat) {t : M Bool} {m : M D} (own : List (Str × Nat)) (ok : BlkOk C.X.N C.X.env.scope scope own)
    (hg : ∀ s H c cl fp, SGM (C.blk scope s H c cl fp) tg v) (ht : ∀ s H c cl fp, STs (C.blk scope s H c cl fp) ifs t) (he : ∀ s H c cl fp, SE (C.blk scope s H c cl fp) elt m)
    (hv : own.map (·.2) = [v] := by rfl) (hR : C.R v = false := by rfl) (hiN : C.X.N[i]? = some y := by rfl) (hiv : Vis C.X.env.scope y := by first | exact Or.inl rfl | exact Or.inr (Or.inl rfl) | exact Or.inr (Or.inr rfl)) (hid : (y == ("__debug__" : Str)) = false := by decide)
    (hicd : (y == ("__classdict__" : Str)) = false := by decide) (hs : ∀ z, foldedSetIterable (.Name y p2) C.X.env z = pure z := by intro _; rfl) : SE C (.ListComp elt [⟨tg, .Name y p2, ifs, 0⟩] scope pos) (eLcMv i v t m) := fun st σ H ω Q s p => by
  have hRv : ∀ j ∈ [v], C.R j = false := fun j h => by rw [List.mem_singleton.mp h]; exact hR
  unfold eLcMv at p
  cases q0 : st[i]? with
  | none => rw [q0] at p; exact p.elim
  | some o =>
  cases o with
  | none => rw [q0] at p; exact p.elim
  | some d =>
  rw [q0] at p
  cases d with
  | lst o xs =>
    cases o with
    | false => exact p.elim
    | true =>
    simp only [kLcMv] at p
    by_cases hz : ¬ (xs.length ≤ 100000)
    · rw [if_neg hz] at p
      exact p.elim
    have hz := Decidable.not_not.mp hz
    rw [if_pos hz] at p
    obtain ⟨vv, ev, rv⟩ := s.at_ i _ q0
    cases rv with
    | lst ha hw rr =>
    rename_i a vs
    have hw : ω a = some (.sl i []) := hw
    have hlen := rep_len rr
    refine ⟨_, pe_lc k.calm k.nd (pi_list (pe_var hiN hiv hid hicd)) ok (g := tgAll C scope tg) (tt := ttAll C scope ifs) (te := teAll C scope elt) (fun s H c cl fp => ⟨fun pins s2 σ H2 v u Q I r h => pg_w.run pins s2 σ H2 v u Q I r (h s H c cl fp)⟩)
      (fun s H c cl fp => ⟨fun pins s2 σ H2 Q I h => by obtain ⟨t', h1, h2⟩ := h s H c cl fp; exact h1.run pins s2 σ H2 Q I h2⟩) (fun s H c cl fp => ⟨fun pins s2 σ H2 Q I h => pe_w.run pins s2 σ H2 Q I (h s H c cl fp)⟩) hs, ?_⟩
    rw [hv]
    refine ⟨_, ev, a, rfl, ⟨_, .of ha⟩, ?_⟩
    intro Dl hD
    have haD : a ≠ Dl := fun z => by rw [z, hD] at ha; cases ha
    generalize hF : lcL [v] (gN v) t m xs ((st.set i none).set v none) = F at p
    have gv_sl : ∀ {c : Addr} {q : List Nat}, ω c = some (.sl i q) → gvw i ω c = some .oth := fun {c q} e => by unfold gvw; rw [e]; simp
    have gv_ne : ∀ {c : Addr} {j : Nat} {q : List Nat}, j ≠ i → ω c = some (.sl j q) → gvw i ω c = some (.sl j q) := fun {c j q} hj e => by unfold gvw; rw [e]; simp [hj]
    have gv_n : ∀ {c : Addr}, ω c = none → gvw i ω c = none := fun {c} e => by unfold gvw; rw [e]
    have gv_o : ∀ {c : Addr}, ω c = some .oth → gvw i ω c = some .oth := fun {c} e => by unfold gvw; rw [e]
    have t0 : Tr H ω H (gvw i ω) := ⟨fun _ _ h => h, fun c u h e => ⟨h, e.elim (fun e => (gv_n e).trans e.symm) fun e => (gv_o e).trans e.symm⟩, fun _ h => h⟩
    have sm0 : C.Sim (st.set i none) σ H (gvw i ω) := ref_set s (fun _ z => nomatch z) (fun _ _ h => h) (fun c u j q hj h e => ⟨h, gv_ne hj e⟩) fun c u h e => ⟨h, gv_n e⟩
    let Inv1 : Nat → Hp → Prop := fun n H' => ∃ st' acc us ω', Tr H ω H' ω' ∧ C.Sim st' (wipe σ [v]) H' ω' ∧ (H' a = some (.lst vs) ∧ ω' a = some .oth) ∧ (∀ c u q j, n ≤ j → H c = some u → ω c = some (.sl i (j :: q)) → H' c = some u ∧ ω' c = some .oth) ∧
        H' Dl = some (.lst us) ∧ ω' Dl = some (.res []) ∧ Reps C.X.K H' ω' .res [] 0 acc us ∧ acc.length ≤ n ∧ F = (lcL [v] (gN v) t m (xs.drop n) st').map (acc ++ ·)
    have ne0 : ∀ {c : Addr} {u : HO}, H c = some u → c ≠ Dl := fun {c u} h z => by rw [z, hD] at h; cases h
    refine ⟨fun n j H' => j = xs.length - n ∧ n ≤ xs.length ∧ Inv1 n H', ⟨_, rfl, Nat.zero_le _, (st.set i none).set v none, [], [], ownN (gvw i ω) Dl, t0.newN hD, (sm0.wipe (vs := [v]) hRv).newN hD, ⟨(upd_ne haD).trans ha, (ownN_ne haD).trans (gv_sl hw)⟩, fun c u q j _ h e => ⟨(upd_ne (ne0 h)).trans h, (ownN_ne (ne0 h)).trans (gv_sl e)⟩, upd_same, ownN_same, .nil, Nat.le_refl _, ?_⟩, ?_⟩
    · rw [← hF]
      unfold Rs.map
      rw [List.drop_zero]
      cases lcL [v] (gN v) t m xs ((st.set i none).set v none) <;> rfl
    · rintro n j H2 ⟨rfl, hn', st2, acc, us, ω2, t2, sm2, ⟨ha2, hw2⟩, hk2, hDl, hwD, racc, hacc, hfin⟩
      by_cases hlt : n < xs.length
      · have ed : xs.drop n = xs[n] :: xs.drop (n + 1) := List.drop_eq_getElem_cons hlt
        have eg : xs[n]? = some xs[n] := List.getElem?_eq_getElem hlt
        rw [ed] at hfin
        obtain ⟨w, hvn, rn⟩ := rr.nth eg
        rw [Nat.zero_add, List.nil_append] at rn
        refine .inr ⟨⟨vs, w, .of ha2, hvn⟩, Inv1 (n + 1), fun H' h => ⟨_, by omega, rfl, hlt, h⟩, fun z H3 y3 => ?_⟩
        obtain ⟨rfl, y3⟩ := y3
        have ez := (y3 vs (.of ha2)).symm.trans hvn
        cases ez
        rw [lcL_cons] at hfin
        simp only [r_gN] at hfin
        have bad : F = .stuck → False := fun z => by rw [z] at p; exact p
        let ωt := tkS i n v H ω ω2
        have hDt : ωt Dl = some (.res []) := (tkS_no hD).trans hwD
        have tt : Tr H ω H3 ωt := ⟨t2.tup, fun c u h e => by
          obtain ⟨h1, e1⟩ := t2.keep c u h e
          refine ⟨h1, (tkS_ne fun q z => ?_).trans e1⟩
          rcases e with e | e <;> (rw [e] at z; cases z), t2.dom⟩
        have rt : Reps C.X.K H3 ωt .res [] 0 acc us := racc.mv (g := id) ⟨fun _ _ => rfl, fun _ _ h => h, fun c u q h e => ⟨h, by
          rcases tkS_alt (i := i) (k := n) (v := v) (H := H) (ω := ω) (ω2 := ω2) (a := c) with ⟨u', q', h1, h2, _⟩ | ⟨h1, _⟩
          · rw [(hk2 c u' q' n (Nat.le_refl _) h1 h2).2] at e; cases e
          · exact h1.trans e⟩, fun c u h e => ⟨h, by
          rcases tkS_alt (i := i) (k := n) (v := v) (H := H) (ω := ω) (ω2 := ω2) (a := c) with ⟨u', q', h1, h2, _⟩ | ⟨h1, _⟩
          · rw [(hk2 c u' q' n (Nat.le_refl _) h1 h2).2] at e; cases e
          · exact h1.trans e⟩⟩
        have sm3 : C.Sim st2 (wipe σ [v]) H3 (tkw i n H ω (hide ω2)) := by
          refine sm2.hid.mv (fun _ _ h => h) (fun c u j q h e => ⟨h, ?_⟩) fun c u h e => ⟨h, ?_⟩
          · rcases tkS_alt (i := i) (k := n) (v := v) (H := H) (ω := ω) (ω2 := ω2) (a := c) with ⟨u', q', h1, h2, _⟩ | ⟨_, h1⟩
            · rw [hide_oth (hk2 c u' q' n (Nat.le_refl _) h1 h2).2] at e; cases e
            · exact (h1 _).trans e
          · rcases tkS_alt (i := i) (k := n) (v := v) (H := H) (ω := ω) (ω2 := ω2) (a := c) with ⟨u', q', h1, h2, _⟩ | ⟨_, h1⟩
            · rw [hide_oth (hk2 c u' q' n (Nat.le_refl _) h1 h2).2] at e; cases e
            · exact (h1 _).trans e
        have r3 : Rep C.X.K H3 (tkw i n H ω (hide ω2)) .res [] xs[n] w := by
          have z := rn.mvP (P := fun q => ∃ q', q = n :: q') (H' := H3) (ω' := tkw i n H ω (hide ω2)) (τ' := Own.res) (g := List.tail) ⟨fun p k ⟨q', e⟩ => ⟨q' ++ [k], by rw [e]; rfl⟩, fun p k ⟨q', e⟩ => by rw [e]; rfl, t2.tup, fun c u q ⟨q', e'⟩ h e => by
            subst e'
            exact ⟨(hk2 c u q' n (Nat.le_refl _) h e).1, tkw_hit h e⟩, fun c u h e => by
            obtain ⟨h1, h2⟩ := t2.keep c u h (.inl e)
            exact ⟨h1, (tkw_ne fun q z => by rw [e] at z; cases z).trans ((hide_none (h2.trans e)).trans e.symm |>.trans e)⟩⟩ ⟨[], rfl⟩
          exact z
        have sm4 := sm3.set hR r3
        have tk : Tr H3 (hide ωt) H3 (slw v (tkw i n H ω (hide ω2))) := ⟨fun _ _ h => h, fun c u h e => ⟨h, by
          rcases tkS_alt (i := i) (k := n) (v := v) (H := H) (ω := ω) (ω2 := ω2) (a := c) with ⟨u', q', h1, h2, h3, _⟩ | ⟨h1, h2⟩
          · rw [show hide ωt c = some (.sl v q') from hide_sl h3] at e
            rcases e with e | e <;> cases e
          · have e3 : hide ωt c = hide ω2 c := by unfold hide; rw [show ωt c = ω2 c from h1]
            rw [e3] at e ⊢
            rcases e with e | e
            · rw [slw_none ((h2 _).trans e), e]
            · rw [slw_oth ((h2 _).trans e), e]⟩, fun _ h => h⟩
        have kp : ∀ {H5 : Hp} {ω5 : Om}, Tr H3 (hide ωt) H5 ω5 → (H5 a = some (.lst vs) ∧ joinK H3 ωt acc.length ω5 a = some .oth) ∧ (∀ c u q j, n + 1 ≤ j → H c = some u → ω c = some (.sl i (j :: q)) → H5 c = some u ∧ joinK H3 ωt acc.length ω5 c = some .oth) := fun {H5 ω5} t5 => by
          have one : ∀ {c : Addr} {u : HO}, H3 c = some u → ωt c = some .oth → H5 c = some u ∧ joinK H3 ωt acc.length ω5 c = some .oth := fun {c u} h e => by
            obtain ⟨h5, e5⟩ := t5.keep c u h (.inr (hide_oth e))
            refine ⟨h5, ?_⟩
            unfold joinK
            rw [h, e]
            simp only
            rw [e5, hide_oth e]
          refine ⟨one ha2 ((tkS_ne fun q z => by rw [hw] at z; cases z).trans hw2), fun c u q j hj h e => ?_⟩
          obtain ⟨h1, e1⟩ := hk2 c u q j (by omega) h e
          exact one h1 ((tkS_ne fun q' z => by rw [e] at z; cases z; omega).trans e1)
        intro bs bH bc bcl bfp
        refine hg bs bH bc bcl bfp w (wipe σ [v]) H3 _ ?_
        have z4 : wipe ((wipe σ [v]).set v (some w)) [v] = wipe σ [v] := wipe_eq (by rw [List.length_set, wipe_length]) fun j hj => by
          rw [List.getElem?_set_ne (fun z => hj (by simp [z])), wipe_at hj]
        refine ⟨z4, ?_⟩
        intro bs bH bc bcl bfp
        refine ht bs bH bc bcl bfp _ _ H3 _ _ sm4 ?_
        cases q2 : t (st2.set v (some xs[n])) with
        | stuck => rw [q2] at hfin; exact (bad hfin).elim
        | exc x w s5 => rw [q2] at hfin; exact (bad hfin).elim
        | ok b s5 =>
          rw [q2] at hfin
          cases b with
          | false =>
            simp only at hfin
            intro H5 ω5 t5 sm5
            have t25 := tk.trans t5
            have hD5 := (t25.keep Dl _ hDl (.inr (hide_res hDt))).1
            obtain ⟨l1, l2, l3, l4, _⟩ := lc_step tt t25 hD hDl hDt rt (sm5.wipe (vs := [v]) hRv) hD5 (fun _ _ => rfl)
            rw [z4] at l2
            obtain ⟨k1, k2⟩ := kp t25
            exact ⟨_, acc, us, _, l1, l2, k1, k2, hD5, l3, l4, Nat.le_succ_of_le hacc, hfin⟩
          | true =>
            simp only at hfin
            intro H5 ω5 t5 sm5
            show teAll C scope elt _ H5 _
            intro bs bH bc bcl bfp
            refine he bs bH bc bcl bfp s5 _ H5 ω5 _ sm5 ?_
            cases q3 : m s5 with
            | stuck => rw [q3] at hfin; exact (bad hfin).elim
            | exc x w s6 => rw [q3] at hfin; exact (bad hfin).elim
            | ok d s6 =>
              rw [q3] at hfin
              simp only at hfin
              intro vr H6 ω6 t6 sm6 r6
              have t26 := (tk.trans t5).trans t6
              have hD6 := (t26.keep Dl _ hDl (.inr (hide_res hDt))).1
              have hl : acc.length = us.length := rep_len racc
              refine ⟨us, hD6, Nat.lt_of_lt_of_le (by omega : us.length < 100001) (by decide), ?_⟩
              obtain ⟨l1, l2, l3, l4, l5⟩ := lc_step tt t26 hD hDl hDt rt (sm6.wipe (vs := [v]) hRv) (H' := upd H6 Dl (.lst (us ++ [vr]))) upd_same (fun a h => upd_ne h)
              rw [z4] at l2
              obtain ⟨⟨k1, k1'⟩, k2⟩ := kp t26
              refine ⟨_, acc ++ [d], us ++ [vr], _, l1, l2, ⟨(upd_ne haD).trans k1, k1'⟩, fun c u q j hj h e => ⟨(upd_ne (ne0 h)).trans (k2 c u q j hj h e).1, (k2 c u q j hj h e).2⟩, upd_same, l3, l4.snoc (by rw [Nat.zero_add]; exact l5 d vr r6), by rw [List.length_append]; exact Nat.succ_le_succ hacc, ?_⟩
              rw [hfin]
              unfold Rs.map
              cases lcL [v] (gN v) t m (xs.drop (n + 1)) (wipeS s6 [v]) with
              | ok a s => simp only [bind_ok, List.append_assoc, List.singleton_append]
              | exc x w s => rfl
              | stuck => rfl
      · have e : n = xs.length := by omega
        subst e
        rw [List.drop_length, lcL_nil] at hfin
        refine .inl ⟨⟨vs, .of ha2, by rw [hlen]; exact Nat.le_refl _⟩, ?_⟩
        unfold Rs.map at hfin
        simp only [bind_ok, List.append_nil] at hfin
        rw [hfin] at p
        simp only [bind_ok] at p
        exact p (.ref Dl) H2 ω2 t2 (sm2.unwipe hRv) (.lst hDl hwD racc)
  | _ => exact p.elim
end
end SV

namespace SV
open PySem PySem.Spec PyProof.Rows L2
def isOL : D → Bool
  | .lst true _ => true
  | _ => false
def sClr (i v : Nat) : M Fl := fun st => match st[i]? with
  | some (some (.lst true xs)) => if (xs.all isOL && decide (v < st.length)) = true then .ok .nx ((st.set i (some (.lst true (xs.map fun _ => .lst true [])))).set v none) else .stuck
  | _ => .stuck
def clrS (vs : List V) (H : Hp) : Nat → Hp
  | 0 => H
  | n + 1 => match vs[n]? with
    | some (.ref b) => upd (clrS vs H n) b (.lst [])
    | _ => clrS vs H n
theorem clrS_ref {vs : List V} {H : Hp} {n : Nat} {b : Addr} (h : vs[n]? = some (.ref b)) : clrS vs H (n + 1) = upd (clrS vs H n) b (.lst []) := by
  conv => lhs; unfold clrS
  rw [h]
theorem clrS_oth {vs : List V} {H : Hp} {n : Nat} (h : ∀ b, vs[n]? ≠ some (.ref b)) : clrS vs H (n + 1) = clrS vs H n := by
  conv => lhs; unfold clrS
  cases e : vs[n]? with
  | none => rfl
  | some w => cases w <;> first | rfl | exact absurd e (h _)
theorem clrS_ne {vs : List V} {H : Hp} {c : Addr} : ∀ {n : Nat}, (∀ j, j < n → vs[j]? ≠ some (.ref c)) → clrS vs H n c = H c
  | 0, _ => rfl
  | n + 1, h => by
    have ih := clrS_ne (vs := vs) (H := H) (c := c) (n := n) fun j hj => h j (by omega)
    by_cases hr : ∃ b, vs[n]? = some (.ref b)
    · obtain ⟨b, e⟩ := hr
      rw [clrS_ref e, upd_ne (fun z => h n (by omega) (by rw [e, z]))]
      exact ih
    · rw [clrS_oth fun b e => hr ⟨b, e⟩]
      exact ih
theorem clrS_hit {vs : List V} {H : Hp} {c : Addr} {j : Nat} (hj : vs[j]? = some (.ref c)) : ∀ {n : Nat}, j < n → clrS vs H n c = some (.lst [])
  | 0, h => absurd h (Nat.not_lt_zero _)
  | n + 1, h => by
    by_cases e : j = n
    · subst e
      rw [clrS_ref hj]
      exact upd_same
    · have ih := clrS_hit (H := H) hj (n := n) (by omega)
      by_cases hr : ∃ b, vs[n]? = some (.ref b)
      · obtain ⟨b, e2⟩ := hr
        rw [clrS_ref e2]
        by_cases hb : c = b
        · rw [hb]; exact upd_same
        · rw [upd_ne hb]; exact ih
      · rw [clrS_oth fun b e => hr ⟨b, e⟩]
        exact ih
theorem reps_of {K : PySem.W.Frag} {H : Hp} {ω : Om} {τ : List Nat → Own} {p : List Nat} : ∀ {ds : List D} {vs : List V} {k : Nat}, ds.length = vs.length → (∀ j d v, ds[j]? = some d → vs[j]? = some v → Rep K H ω τ (p ++ [k + j]) d v) → Reps K H ω τ p k ds vs
  | [], [], _, _, _ => .nil
  | [], _ :: _, _, h, _ => by cases h
  | _ :: _, [], _, h, _ => by cases h
  | d :: ds, v :: vs, k, h, f => .cons (f 0 d v rfl rfl) (reps_of (by simpa using h) fun j d' v' h1 h2 => by
    have := f (j + 1) d' v' h1 h2
    rw [show k + 1 + j = k + (j + 1) by omega]
    exact this)
theorem Sim.forget {K : PySem.W.Frag} {R : Nat → Bool} {σ0 σ σ' : L2.St} {st : S} {H : Hp} {ω : Om} {v : Nat} (s : Sim K R σ0 st σ H ω) (hl : σ'.length = σ.length) (he : ∀ j, j ≠ v → σ'[j]? = σ[j]?) (hR : R v = false) : Sim K R σ0 (st.set v none) σ' H ω := by
  refine ⟨by simp [s.len, hl], fun l d h => ?_, fun l h => ?_⟩
  · have hlv : v ≠ l := fun z => by
      subst z
      by_cases hlt : v < st.length
      · rw [List.getElem?_set_self hlt] at h; cases h
      · rw [List.getElem?_eq_none (by simpa using hlt)] at h; cases h
    rw [List.getElem?_set_ne hlv] at h
    obtain ⟨w, e, r⟩ := s.at_ l d h
    exact ⟨w, (he l (Ne.symm hlv)).trans e, r⟩
  · have hlv : l ≠ v := fun z => by rw [z, hR] at h; cases h
    rw [he l hlv]
    exact s.ref_ l h
section
variable {C : Ct} {pos p2 p3 p4 apos cpos epos : Pos} {x y : Str} {lv : Nat}
theorem ss_clr (k : C.Ok lv) {i v : Nat} (hiN : C.X.N[i]? = some y := by rfl) (hiv : Vis C.X.env.scope y := by first | exact Or.inl rfl | exact Or.inr (Or.inl rfl) | exact Or.inr (Or.inr rfl)) (hid : (y == ("__debug__" : Str)) = false := by decide)
    (hicd : (y == ("__classdict__" : Str)) = false := by decide) (hi : C.X.N[v]? = some x := by rfl) (hx : Loc C.X.env.scope x := by first | exact Or.inl rfl | exact Or.inr rfl) (hR : C.R v = false := by rfl) (hiR : i ≠ v := by decide)
    (hf : C.X.fn x = true ∨ C.X.env.scope.names.lookup x = some .local := by first | exact .inl rfl | exact .inr rfl)
    (hv : Vis C.X.env.scope x := by first | exact Or.inl rfl | exact Or.inr (Or.inl rfl) | exact Or.inr (Or.inr rfl)) (hd : (x == ("__debug__" : Str)) = false := by decide)
    (hcd : (x == ("__classdict__" : Str)) = false := by decide) (hbase : attributeBase (.Name x p4) "clear" C.X.env (eval (.Name x p4) C.X.env) = eval (.Name x p4) C.X.env := by rfl) (hline : (apos.endLine == cpos.line) = true := by rfl)
    (hsw : swapsWith (.Call (.Attribute (.Name x p4) "clear" apos) [] [] cpos) none epos.line C.X.env = pure false := by rfl)
    (hs : ∀ z, foldedSetIterable (.Name y p2) C.X.env z = pure z := by intro _; rfl) : SS C (.For (.Name x p3) (.Name y p2) [.Expr (.Call (.Attribute (.Name x p4) "clear" apos) [] [] cpos) epos] [] pos) (sClr i v) := fun st σ H ω N s p => by
  unfold sClr at p
  cases q0 : st[i]? with
  | none => rw [q0] at p; exact p.elim
  | some o =>
  cases o with
  | none => rw [q0] at p; exact p.elim
  | some d =>
  rw [q0] at p
  cases d with
  | lst o xs =>
    cases o with
    | false => exact p.elim
    | true =>
    simp only at p
    by_cases hz : ¬ ((xs.all isOL && decide (v < st.length)) = true)
    · rw [if_neg hz] at p
      exact p.elim
    have hz := Decidable.not_not.mp hz
    rw [if_pos hz] at p
    obtain ⟨hz, hvs⟩ := Bool.and_eq_true_iff.mp hz
    have hvs := of_decide_eq_true hvs
    obtain ⟨vv, ev, rv⟩ := s.at_ i _ q0
    cases rv with
    | lst ha hw rr =>
    rename_i a vs
    have hw : ω a = some (.sl i []) := hw
    have hlen := rep_len rr
    have item : ∀ {n : Nat}, n < xs.length → ∃ b zs, vs[n]? = some (.ref b) ∧ H b = some (.lst zs) ∧ ω b = some (.sl i [n]) := fun {n} hn => by
      obtain ⟨w, hvn, rn⟩ := rr.nth (List.getElem?_eq_getElem hn)
      rw [Nat.zero_add, List.nil_append] at rn
      have ho := List.all_eq_true.mp hz xs[n] (List.getElem_mem hn)
      generalize xs[n] = d at rn ho
      cases d with
      | lst o ys =>
        cases o with
        | false => cases ho
        | true =>
          cases rn with
          | lst h1 h2 _ => exact ⟨_, _, hvn, h1, h2⟩
      | _ => cases ho
    have only : ∀ {c : Addr} {n : Nat}, (∀ j, ω c ≠ some (.sl i [j])) → n ≤ xs.length → clrS vs H n c = H c := fun {c n} h hn => clrS_ne fun j hj z => by
      obtain ⟨b, zs, e1, e2, e3⟩ := item (n := j) (by omega)
      rw [e1] at z
      cases z
      exact h j e3
    have hne : ∀ {c : Addr} {n : Nat} {u : HO}, H c = some u → (∀ zs, u ≠ .lst zs) → n ≤ xs.length → clrS vs H n c = some u := fun {c n u} hc h hn => (clrS_ne fun j hj z => by
      obtain ⟨b, zs, e1, e2, e3⟩ := item (n := j) (by omega)
      rw [e1] at z
      cases z
      rw [hc] at e2
      cases e2
      exact h zs rfl).trans hc
    have ha2 : ∀ {n : Nat}, n ≤ xs.length → clrS vs H n a = some (.lst vs) := fun {n} hn => (only (fun j z => by rw [hw] at z; cases z) hn).trans ha
    refine ⟨_, ps_for k.own k.calm (pi_list (pe_var hiN hiv hid hicd)) pg_w (pss_one (ps_expr (pe_bm0 PySem.F.plainAttrs_list PySem.F.slot_list_clear PySem.F.type_list_clear mt_clear (pe_var hi hv hd hcd) hbase hline) hsw)) hs, ?_⟩
    refine ⟨_, ev, a, rfl, ⟨_, .of ha⟩, ?_⟩
    let Inv1 : Nat → L2.St → Hp → Prop := fun n σ' H' => H' = clrS vs H n ∧ σ'.length = σ.length ∧ ∀ j, j ≠ v → σ'[j]? = σ[j]?
    refine ⟨fun n m σ' H' => m = xs.length - n ∧ n ≤ xs.length ∧ Inv1 n σ' H', ⟨_, rfl, Nat.zero_le _, rfl, rfl, fun _ _ => rfl⟩, ?_⟩
    rintro n m σ2 H2 ⟨rfl, hn', rfl, hl2, he2⟩
    by_cases hlt : n < xs.length
    · obtain ⟨b, zs, hvn, e2, e3⟩ := item hlt
      refine .inr ⟨⟨vs, .ref b, .of (ha2 hn'), hvn⟩, Inv1 (n + 1), fun σ' H' h => ⟨_, by omega, rfl, hlt, h⟩, fun z H3 y3 => ?_⟩
      obtain ⟨rfl, y3⟩ := y3
      have ez := (y3 vs (.of (ha2 hn'))).symm.trans hvn
      cases ez
      refine ⟨_, pg_name k.nd hi hx hf, ?_⟩
      have hvl : v < σ2.length := by
        have h2 := s.len
        omega
      have hb : clrS vs H n b = some (.lst zs) := (clrS_ne fun j hj z => by
        obtain ⟨b', zs', f1, f2, f3⟩ := item (n := j) (by omega)
        rw [f1] at z
        cases z
        rw [e3] at f3
        cases f3
        omega).trans e2
      refine ⟨.ref b, List.getElem?_set_self hvl, tyV_lst hb, b, zs, rfl, rfl, hb, ?_⟩
      refine ⟨?_, by rw [List.length_set]; exact hl2, fun j hj => ?_⟩
      · exact (clrS_ref hvn).symm
      · rw [List.getElem?_set_ne (Ne.symm hj)]
        exact he2 j hj
    · have e : n = xs.length := by omega
      subst e
      refine .inl ⟨⟨vs, .of (ha2 (Nat.le_refl _)), by rw [hlen]; exact Nat.le_refl _⟩, ?_⟩
      have tup : TT0 H (clrS vs H xs.length) := fun c ws h => hne h (fun zs z => by cases z) (Nat.le_refl _)
      have keepN : ∀ {c : Addr} {u : HO}, H c = some u → (∀ j, ω c ≠ some (.sl i [j])) → clrS vs H xs.length c = some u := fun {c u} h e => (only e (Nat.le_refl _)).trans h
      refine p σ2 _ ω ⟨tup, fun c u h e => ⟨keepN h fun j z => by rcases e with e | e <;> (rw [e] at z; cases z), rfl⟩, fun c h => ?_⟩ ?_
      · by_cases hc : ∃ j, j < xs.length ∧ vs[j]? = some (.ref c)
        · obtain ⟨j, h1, h2⟩ := hc
          rw [clrS_hit h2 h1]
          exact fun z => nomatch z
        · rw [clrS_ne fun j hj z => hc ⟨j, hj, z⟩]
          exact h
      · refine Sim.forget (σ := σ) ?_ hl2 he2 hR
        refine ref_set s (fun d hd => ?_) tup (fun c u j q hj h e => ⟨keepN h fun j' z => (by rw [e] at z; cases z; exact hj rfl), e⟩) fun c u h e => ⟨keepN h fun j' z => (by rw [e] at z; cases z), e⟩
        cases hd
        refine ⟨_, ev, .lst (ha2 (Nat.le_refl _)) hw (reps_of (by rw [List.length_map]; exact hlen) fun j d w h1 h2 => ?_)⟩
        rw [List.getElem?_map] at h1
        cases hx : xs[j]? with
        | none => rw [hx] at h1; cases h1
        | some z =>
          rw [hx] at h1
          cases h1
          have hj := (List.getElem?_eq_some_iff.mp hx).1
          obtain ⟨b, zs, f1, f2, f3⟩ := item hj
          rw [f1] at h2
          cases h2
          rw [Nat.zero_add, List.nil_append]
          exact .lst (clrS_hit f1 hj) f3 .nil
  | _ => exact p.elim
end
theorem q_sClr {i v : Nat} {xs : List D} {st : S} {E : Ex} {Q : Fl → S → Prop} (h : st[i]? = some (some (.lst true xs))) (ho : xs.all isOL = true) (hv : v < st.length) : Wx E (sClr i v st) Q = Q .nx ((st.set i (some (.lst true (xs.map fun _ => .lst true [])))).set v none) := by
  unfold sClr
  rw [h]
  simp only
  rw [if_pos (by rw [ho, decide_eq_true hv]; rfl)]
  exact Wx_ok
end SV

namespace LW
open PySem PySem.Spec PyProof.Rows L2 SV
def top (i : Nat) : Stmt := PySem.Challenge.pw_turnsums_k48_what_orders_are.main.body.getD i (.Pass ⟨0, 0, 0, 0⟩)
abbrev s__law_box : Stmt := top 7
theorem sc__law_box : FnScope ["_law_script", "_law_k", "_law_cell"] ["_law_script", "_law_k"] (defScope s__law_box) := ⟨rfl, rfl, rfl, by decide +kernel, rfl, by decide +kernel, by decide +kernel⟩
abbrev s__law_folded : Stmt := top 10
theorem sc__law_folded : FnScope ["_law_script", "_law_count", "_law_cells", "_law_k", "_law_cell"] ["_law_script", "_law_count"] (defScope s__law_folded) := ⟨rfl, rfl, rfl, by decide +kernel, rfl, by decide +kernel, by decide +kernel⟩
abbrev s__law_take : Stmt := top 8
theorem sc__law_take : FnScope ["_law_box_here", "_law_top", "_law_once", "_law_found"] ["_law_box_here", "_law_top"] (defScope s__law_take) := ⟨rfl, rfl, rfl, by decide +kernel, rfl, by decide +kernel, by decide +kernel⟩
abbrev s__law_pick : Stmt := top 9
theorem sc__law_pick : FnScope ["_law_box_here", "_law_things"] ["_law_box_here", "_law_things"] (defScope s__law_pick) := ⟨rfl, rfl, rfl, by decide +kernel, rfl, by decide +kernel, by decide +kernel⟩
abbrev s__law_bent : Stmt := top 14
theorem sc__law_bent : FnScope ["_law_box_here", "_law_thing", "_law_odd", "_law_some", "_law_at", "_law_way", "_law_to"] ["_law_box_here", "_law_thing"] (defScope s__law_bent) := ⟨rfl, rfl, rfl, by decide +kernel, rfl, by decide +kernel, by decide +kernel⟩
abbrev s__law_is_it : Stmt := top 13
theorem sc__law_is_it : FnScope ["_law_thing", "_law_k", "_law_one"] ["_law_thing"] (defScope s__law_is_it) := ⟨rfl, rfl, rfl, by decide +kernel, rfl, by decide +kernel, by decide +kernel⟩
abbrev s__law_rounds : Stmt := top 15
theorem sc__law_rounds : FnScope ["_law_row", "_law_begin", "_law_found", "_law_met", "_law_turn", "_law_here", "_law_going"] ["_law_row"] (defScope s__law_rounds) := ⟨rfl, rfl, rfl, by decide +kernel, rfl, by decide +kernel, by decide +kernel⟩
abbrev s__law_same : Stmt := top 11
theorem sc__law_same : FnScope ["_law_found", "_law_due", "_law_one", "_law_two"] ["_law_found", "_law_due"] (defScope s__law_same) := ⟨rfl, rfl, rfl, by decide +kernel, rfl, by decide +kernel, by decide +kernel⟩
abbrev s__law_shuffled : Stmt := top 12
theorem sc__law_shuffled : FnScope ["_law_box_here", "_law_count", "_law_found", "_law_turn", "_law_some", "_law_way", "_law_one"] ["_law_box_here", "_law_count"] (defScope s__law_shuffled) := ⟨rfl, rfl, rfl, by decide +kernel, rfl, by decide +kernel, by decide +kernel⟩
abbrev s_inverse_order : Stmt := top 3
theorem sc_inverse_order : FnScope ["order", "back", "place", "at"] ["order"] (defScope s_inverse_order) := ⟨rfl, rfl, rfl, by decide +kernel, rfl, by decide +kernel, by decide +kernel⟩
abbrev s_is_place : Stmt := top 1
theorem sc_is_place : FnScope ["thing", "many"] ["thing", "many"] (defScope s_is_place) := ⟨rfl, rfl, rfl, by decide +kernel, rfl, by decide +kernel, by decide +kernel⟩
abbrev s_is_order : Stmt := top 2
theorem sc_is_order : FnScope ["thing", "one"] ["thing"] (defScope s_is_order) := ⟨rfl, rfl, rfl, by decide +kernel, rfl, by decide +kernel, by decide +kernel⟩
abbrev s_round_from : Stmt := top 4
theorem sc_round_from : FnScope ["order", "begin", "found"] ["order", "begin"] (defScope s_round_from) := ⟨rfl, rfl, rfl, by decide +kernel, rfl, by decide +kernel, by decide +kernel⟩
abbrev s_order_cycles : Stmt := top 5
theorem sc_order_cycles : FnScope ["order", "rounds", "place", "one"] ["order"] (defScope s_order_cycles) := ⟨rfl, rfl, rfl, by decide +kernel, rfl, by decide +kernel, by decide +kernel⟩
abbrev s__law_right : Stmt := top 16
theorem sc__law_right : FnScope ["_law_box_here", "_law_row", "_law_turn", "_law_thing", "_law_due", "_law_given", "_law_stays", "_law_things", "_law_told", "_law_rounds_here", "_law_one", "_law_ahead", "_law_k"] ["_law_box_here"] (defScope s__law_right) := ⟨rfl, rfl, rfl, by decide +kernel, rfl, by decide +kernel, by decide +kernel⟩
abbrev s_law : Stmt := top 17
theorem sc_law : FnScope ["_law_script", "_law_cells", "_law_k", "_law_box_here", "_law_turn"] ["_law_script"] (defScope s_law) := ⟨rfl, rfl, rfl, by decide +kernel, rfl, by decide +kernel, by decide +kernel⟩
structure FX (K : PySem.W.Frag) (mg : Str → Option Value) where
  fd__law_box : FuncData
  F__law_box : FunD K "_law_box" "_law_box" (defArgs s__law_box) (defBody s__law_box) (defScope s__law_box) [] [] (He.ga K "_law_box") fd__law_box
  g__law_box : mg "_law_box" = some (.ref (He.ga K "_law_box"))
  fd__law_folded : FuncData
  F__law_folded : FunD K "_law_folded" "_law_folded" (defArgs s__law_folded) (defBody s__law_folded) (defScope s__law_folded) [] [] (He.ga K "_law_folded") fd__law_folded
  g__law_folded : mg "_law_folded" = some (.ref (He.ga K "_law_folded"))
  fd__law_take : FuncData
  F__law_take : FunD K "_law_take" "_law_take" (defArgs s__law_take) (defBody s__law_take) (defScope s__law_take) [] [] (He.ga K "_law_take") fd__law_take
  g__law_take : mg "_law_take" = some (.ref (He.ga K "_law_take"))
  fd__law_pick : FuncData
  F__law_pick : FunD K "_law_pick" "_law_pick" (defArgs s__law_pick) (defBody s__law_pick) (defScope s__law_pick) [] [] (He.ga K "_law_pick") fd__law_pick
  g__law_pick : mg "_law_pick" = some (.ref (He.ga K "_law_pick"))
  fd__law_bent : FuncData
  F__law_bent : FunD K "_law_bent" "_law_bent" (defArgs s__law_bent) (defBody s__law_bent) (defScope s__law_bent) [] [] (He.ga K "_law_bent") fd__law_bent
  g__law_bent : mg "_law_bent" = some (.ref (He.ga K "_law_bent"))
  fd__law_is_it : FuncData
  F__law_is_it : FunD K "_law_is_it" "_law_is_it" (defArgs s__law_is_it) (defBody s__law_is_it) (defScope s__law_is_it) [] [] (He.ga K "_law_is_it") fd__law_is_it
  g__law_is_it : mg "_law_is_it" = some (.ref (He.ga K "_law_is_it"))
  fd__law_rounds : FuncData
  F__law_rounds : FunD K "_law_rounds" "_law_rounds" (defArgs s__law_rounds) (defBody s__law_rounds) (defScope s__law_rounds) [] [] (He.ga K "_law_rounds") fd__law_rounds
  g__law_rounds : mg "_law_rounds" = some (.ref (He.ga K "_law_rounds"))
  fd__law_same : FuncData
  F__law_same : FunD K "_law_same" "_law_same" (defArgs s__law_same) (defBody s__law_same) (defScope s__law_same) [] [] (He.ga K "_law_same") fd__law_same
  g__law_same : mg "_law_same" = some (.ref (He.ga K "_law_same"))
  fd__law_shuffled : FuncData
  F__law_shuffled : FunD K "_law_shuffled" "_law_shuffled" (defArgs s__law_shuffled) (defBody s__law_shuffled) (defScope s__law_shuffled) [] [] (He.ga K "_law_shuffled") fd__law_shuffled
  g__law_shuffled : mg "_law_shuffled" = some (.ref (He.ga K "_law_shuffled"))
  fd_inverse_order : FuncData
  F_inverse_order : FunD K "inverse_order" "inverse_order" (defArgs s_inverse_order) (defBody s_inverse_order) (defScope s_inverse_order) [] [] (He.ga K "inverse_order") fd_inverse_order
  g_inverse_order : mg "inverse_order" = some (.ref (He.ga K "inverse_order"))
  fd_is_place : FuncData
  F_is_place : FunD K "is_place" "is_place" (defArgs s_is_place) (defBody s_is_place) (defScope s_is_place) [] [] (He.ga K "is_place") fd_is_place
  g_is_place : mg "is_place" = some (.ref (He.ga K "is_place"))
  fd_is_order : FuncData
  F_is_order : FunD K "is_order" "is_order" (defArgs s_is_order) (defBody s_is_order) (defScope s_is_order) [] [] (He.ga K "is_order") fd_is_order
  g_is_order : mg "is_order" = some (.ref (He.ga K "is_order"))
  fd_round_from : FuncData
  F_round_from : FunD K "round_from" "round_from" (defArgs s_round_from) (defBody s_round_from) (defScope s_round_from) [] [] (He.ga K "round_from") fd_round_from
  g_round_from : mg "round_from" = some (.ref (He.ga K "round_from"))
  fd_order_cycles : FuncData
  F_order_cycles : FunD K "order_cycles" "order_cycles" (defArgs s_order_cycles) (defBody s_order_cycles) (defScope s_order_cycles) [] [] (He.ga K "order_cycles") fd_order_cycles
  g_order_cycles : mg "order_cycles" = some (.ref (He.ga K "order_cycles"))
  fd__law_right : FuncData
  F__law_right : FunD K "_law_right" "_law_right" (defArgs s__law_right) (defBody s__law_right) (defScope s__law_right) [] [] (He.ga K "_law_right") fd__law_right
  g__law_right : mg "_law_right" = some (.ref (He.ga K "_law_right"))
  fd_law : FuncData
  F_law : FunD K "law" "law" (defArgs s_law) (defBody s_law) (defScope s_law) [] [] (He.ga K "law") fd_law
  g_law : mg "law" = some (.ref (He.ga K "law"))
  n_abs : mg "abs" = none
  n_all : mg "all" = none
  n_bool : mg "bool" = none
  n_enumerate : mg "enumerate" = none
  n_int : mg "int" = none
  n_isinstance : mg "isinstance" = none
  n_len : mg "len" = none
  n_list : mg "list" = none
  n_min : mg "min" = none
  n_range : mg "range" = none
  n_repr : mg "repr" = none
  n_sorted : mg "sorted" = none
  n_str : mg "str" = none
  n_tuple : mg "tuple" = none
  n_zip : mg "zip" = none
section
variable {P : Program} {w : World} {K : PySem.W.Frag} {mg : Str → Option Value} {base : Heap}
theorem bd__law_box {f : Addr} {fd : FuncData} (F : FunD K "_law_box" "_law_box" (defArgs s__law_box) (defBody s__law_box) (defScope s__law_box) [] [] f fd) : Binds K fd ["_law_script", "_law_k"] [] := F.bindsN fun _ _ _ _ _ _ us hl => match us, hl with | [_, _], _ => rfl
theorem bd__law_folded {f : Addr} {fd : FuncData} (F : FunD K "_law_folded" "_law_folded" (defArgs s__law_folded) (defBody s__law_folded) (defScope s__law_folded) [] [] f fd) : Binds K fd ["_law_script", "_law_count"] [] := F.bindsN fun _ _ _ _ _ _ us hl => match us, hl with | [_, _], _ => rfl
theorem bd__law_take {f : Addr} {fd : FuncData} (F : FunD K "_law_take" "_law_take" (defArgs s__law_take) (defBody s__law_take) (defScope s__law_take) [] [] f fd) : Binds K fd ["_law_box_here", "_law_top"] [] := F.bindsN fun _ _ _ _ _ _ us hl => match us, hl with | [_, _], _ => rfl
theorem bd__law_pick {f : Addr} {fd : FuncData} (F : FunD K "_law_pick" "_law_pick" (defArgs s__law_pick) (defBody s__law_pick) (defScope s__law_pick) [] [] f fd) : Binds K fd ["_law_box_here", "_law_things"] [] := F.bindsN fun _ _ _ _ _ _ us hl => match us, hl with | [_, _], _ => rfl
theorem bd__law_bent {f : Addr} {fd : FuncData} (F : FunD K "_law_bent" "_law_bent" (defArgs s__law_bent) (defBody s__law_bent) (defScope s__law_bent) [] [] f fd) : Binds K fd ["_law_box_here", "_law_thing"] [] := F.bindsN fun _ _ _ _ _ _ us hl => match us, hl with | [_, _], _ => rfl
theorem bd__law_is_it {f : Addr} {fd : FuncData} (F : FunD K "_law_is_it" "_law_is_it" (defArgs s__law_is_it) (defBody s__law_is_it) (defScope s__law_is_it) [] [] f fd) : Binds K fd ["_law_thing"] [] := F.bindsN fun _ _ _ _ _ _ us hl => match us, hl with | [_], _ => rfl
theorem bd__law_rounds {f : Addr} {fd : FuncData} (F : FunD K "_law_rounds" "_law_rounds" (defArgs s__law_rounds) (defBody s__law_rounds) (defScope s__law_rounds) [] [] f fd) : Binds K fd ["_law_row"] [] := F.bindsN fun _ _ _ _ _ _ us hl => match us, hl with | [_], _ => rfl
theorem bd__law_same {f : Addr} {fd : FuncData} (F : FunD K "_law_same" "_law_same" (defArgs s__law_same) (defBody s__law_same) (defScope s__law_same) [] [] f fd) : Binds K fd ["_law_found", "_law_due"] [] := F.bindsN fun _ _ _ _ _ _ us hl => match us, hl with | [_, _], _ => rfl
theorem bd__law_shuffled {f : Addr} {fd : FuncData} (F : FunD K "_law_shuffled" "_law_shuffled" (defArgs s__law_shuffled) (defBody s__law_shuffled) (defScope s__law_shuffled) [] [] f fd) : Binds K fd ["_law_box_here", "_law_count"] [] := F.bindsN fun _ _ _ _ _ _ us hl => match us, hl with | [_, _], _ => rfl
theorem bd_inverse_order {f : Addr} {fd : FuncData} (F : FunD K "inverse_order" "inverse_order" (defArgs s_inverse_order) (defBody s_inverse_order) (defScope s_inverse_order) [] [] f fd) : Binds K fd ["order"] [] := F.bindsN fun _ _ _ _ _ _ us hl => match us, hl with | [_], _ => rfl
theorem bd_is_place {f : Addr} {fd : FuncData} (F : FunD K "is_place" "is_place" (defArgs s_is_place) (defBody s_is_place) (defScope s_is_place) [] [] f fd) : Binds K fd ["thing", "many"] [] := F.bindsN fun _ _ _ _ _ _ us hl => match us, hl with | [_, _], _ => rfl
theorem bd_is_order {f : Addr} {fd : FuncData} (F : FunD K "is_order" "is_order" (defArgs s_is_order) (defBody s_is_order) (defScope s_is_order) [] [] f fd) : Binds K fd ["thing"] [] := F.bindsN fun _ _ _ _ _ _ us hl => match us, hl with | [_], _ => rfl
theorem bd_round_from {f : Addr} {fd : FuncData} (F : FunD K "round_from" "round_from" (defArgs s_round_from) (defBody s_round_from) (defScope s_round_from) [] [] f fd) : Binds K fd ["order", "begin"] [] := F.bindsN fun _ _ _ _ _ _ us hl => match us, hl with | [_, _], _ => rfl
theorem bd_order_cycles {f : Addr} {fd : FuncData} (F : FunD K "order_cycles" "order_cycles" (defArgs s_order_cycles) (defBody s_order_cycles) (defScope s_order_cycles) [] [] f fd) : Binds K fd ["order"] [] := F.bindsN fun _ _ _ _ _ _ us hl => match us, hl with | [_], _ => rfl
theorem bd__law_right {f : Addr} {fd : FuncData} (F : FunD K "_law_right" "_law_right" (defArgs s__law_right) (defBody s__law_right) (defScope s__law_right) [] [] f fd) : Binds K fd ["_law_box_here"] [] := F.bindsN fun _ _ _ _ _ _ us hl => match us, hl with | [_], _ => rfl
def m__law_box : M Fl :=
  (sSeq (sSet 2 (eC (.int 0)))
  (sSeq (sIf (tB (e2 fLt (oS 1) (oV (opS fLen (aCons (oS 0) aNil))))) (sSeq (sSet 2 (eFr (eIx (oS 0) (oS 1))))
  sNil) sNil)
  (sSeq (sRet (eLst (aCons (oV (e2 fMul (oV (opS fAbs (aCons (oS 2) aNil))) (oV (opS fInt (aCons (oV (e2 fGe (oV (opS fAbs (aCons (oS 2) aNil))) (oV (e2 fPow (oV (eC (.int 10))) (oV (eC (.int 18))))))) aNil))))) (aCons (oV (e2 fAdd (oV (e2 fAdd (oV (e2 fMod (oS 2) (oV (eC (.int 2147483629))))) (oV (e2A gMul (oV (eC (.int 7919))) (oS 1))))) (oV (eC (.int 11))))) (aCons (oV (eC (.int 0))) aNil)))))
  sNil)))
theorem b__law_box (Z : FX K mg) {lv : Nat} (hlv : 0 ≤ lv) {f : Addr} {cdv : Value} {A : Around} {outer : List Env} {s : Shared} {H : Hp} {E : XK} {vs : List V} (k : (ctOf P w K mg base ["_law_script", "_law_k", "_law_cell"] "_law_box" (defScope s__law_box) f cdv A outer s H E [false, false] vs).Ok lv) : SSs (ctOf P w K mg base ["_law_script", "_law_k", "_law_cell"] "_law_box" (defScope s__law_box) f cdv A outer s H E [false, false] vs) (defBody s__law_box) (m__law_box) :=
  (ss_cons (ss_set k (i := 2) se_int)
  (ss_cons (ss_if (st_cmp (sc_lt) two_fLt (so_s 1) (so_v (se_callB (x := "len") sn_len rfl Z.n_len (by decide +kernel) (sa_cons (so_s 0) sa_nil)))) (ss_cons (ss_fr (ss_set k (i := 2) (se_ix (so_s 0) (so_s 1))))
  ss_nil) ss_nil)
  (ss_cons (ss_ret (se_lst (sa_cons (so_v (se_op sc_mul two_mul (so_v (se_callB (x := "abs") sn_abs rfl Z.n_abs (by decide +kernel) (sa_cons (so_s 2) sa_nil))) (so_v (se_callTy (x := "int") sn_int rfl Z.n_int (by decide +kernel) (sa_cons (so_v (se_cmp (sc_ge) two_fGe (so_v (se_callB (x := "abs") sn_abs rfl Z.n_abs (by decide +kernel) (sa_cons (so_s 2) sa_nil))) (so_v (se_op sc_pow two_pow (so_v se_int) (so_v se_int))))) sa_nil))))) (sa_cons (so_v (se_op sc_add two_add (so_v (se_op sc_add two_add (so_v (se_op sc_mod two_mod (so_s 2) (so_v se_int))) (so_v (se_opA a_mul (so_v se_int) (so_s 1))))) (so_v se_int))) (sa_cons (so_v se_int) sa_nil)))))
  ss_nil)))
theorem O__law_box : ∃ f : List D → Cr, f = runDef [false, false] 3 m__law_box := ⟨_, rfl⟩
noncomputable def P__law_box : List D → Cr := Classical.choose O__law_box
theorem P__law_box_eq : P__law_box = runDef [false, false] 3 m__law_box := Classical.choose_spec O__law_box
theorem ok__law_box (Z : FX K mg) : FnG P w K mg base (L2.CX P w) 1 (He.ga K "_law_box") Z.fd__law_box ["_law_script", "_law_k"] (spF K [false, false] P__law_box) := def_ok Z.F__law_box sc__law_box [false, false] P__law_box m__law_box rfl (fun _ _ _ _ _ _ _ _ k => b__law_box Z (by omega) k) (fun _ _ _ => by rw [P__law_box_eq]; rfl)
theorem fn__law_box {C : Ct} (Z : FX C.X.K C.X.mg) : Fn C 1 (He.ga C.X.K "_law_box") Z.fd__law_box ["_law_script", "_law_k"] [false, false] P__law_box := ⟨ok__law_box Z, Z.F__law_box.kp, bd__law_box Z.F__law_box⟩
def m__law_folded : M Fl :=
  (sSeq (sSet 2 (opA gList (aCons (oV (opA (gSl false true) (aCons (oS 0) (aCons (oS 1) aNil)))) aNil)))
  (sSeq (sFor (gTup 2 (gCons (gN 3) (gCons (gN 4) gNil))) (SV.iEnumS (oV (opA (gSl true true) (aCons (oS 0) (aCons (oI (oS 1)) (aCons (oV (eC (.int 63))) aNil)))))) (sSeq (sSub 2 (oV (e2 fMod (oS 3) (oS 1))) (e2A gAdd (oV (eIx (oS 2) (oV (e2 fMod (oS 3) (oS 1))))) (oV (e2A gMul (oS 4) (oV (e2 fAdd (oS 3) (oV (eC (.int 2)))))))))
  sNil))
  (sSeq (sRet (eIf (tB (e2 fNe (oV (eFz 2)) (oV (eLst aNil)))) (eFz 2) (eLst (aCons (oV (eC (.int 0))) aNil))))
  sNil)))
theorem b__law_folded (Z : FX K mg) {lv : Nat} (hlv : 0 ≤ lv) {f : Addr} {cdv : Value} {A : Around} {outer : List Env} {s : Shared} {H : Hp} {E : XK} {vs : List V} (k : (ctOf P w K mg base ["_law_script", "_law_count", "_law_cells", "_law_k", "_law_cell"] "_law_folded" (defScope s__law_folded) f cdv A outer s H E [false, false] vs).Ok lv) : SSs (ctOf P w K mg base ["_law_script", "_law_count", "_law_cells", "_law_k", "_law_cell"] "_law_folded" (defScope s__law_folded) f cdv A outer s H E [false, false] vs) (defBody s__law_folded) (m__law_folded) :=
  (ss_cons (ss_set k (i := 2) (se_callTyA (x := "list") a_list rfl Z.n_list (by decide +kernel) (sa_cons (so_v (se_sl01 (so_s 0) (so_s 1))) sa_nil)))
  (ss_cons (ss_for k (si_enumS (hm := Z.n_enumerate) (h := (so_v (se_sl11 (so_s 0) (so_s 1) (so_v se_int))))) (sg_tup k (sgs_cons (sg_n k 3) (sgs_cons (sg_n k 4) sgs_nil))) (ss_cons (ss_sub (i := 2) (so_v (se_op sc_mod two_mod (so_s 3) (so_s 1))) (se_opA a_add (so_v (se_ix (so_s 2) (so_v (se_op sc_mod two_mod (so_s 3) (so_s 1))))) (so_v (se_opA a_mul (so_s 4) (so_v (se_op sc_add two_add (so_s 3) (so_v se_int)))))))
  ss_nil))
  (ss_cons (ss_ret (se_if (st_cmp (sc_ne k.units) two_fNe (so_v (se_fz 2)) (so_v (se_lst sa_nil))) (se_fz 2) (se_lst (sa_cons (so_v se_int) sa_nil))))
  ss_nil)))
theorem O__law_folded : ∃ f : List D → Cr, f = runDef [false, false] 5 m__law_folded := ⟨_, rfl⟩
noncomputable def P__law_folded : List D → Cr := Classical.choose O__law_folded
theorem P__law_folded_eq : P__law_folded = runDef [false, false] 5 m__law_folded := Classical.choose_spec O__law_folded
theorem ok__law_folded (Z : FX K mg) : FnG P w K mg base (L2.CX P w) 1 (He.ga K "_law_folded") Z.fd__law_folded ["_law_script", "_law_count"] (spF K [false, false] P__law_folded) := def_ok Z.F__law_folded sc__law_folded [false, false] P__law_folded m__law_folded rfl (fun _ _ _ _ _ _ _ _ k => b__law_folded Z (by omega) k) (fun _ _ _ => by rw [P__law_folded_eq]; rfl)
theorem R__law_folded {x0 x1 : D} {Q : D → List D → Prop} (h : Wx noE (m__law_folded [some x0, some x1, none, none, none]) (fin [false, false] Q)) : Cw noC (P__law_folded [x0, x1]) Q := by rw [P__law_folded_eq]; exact run_w rfl h
theorem fn__law_folded {C : Ct} (Z : FX C.X.K C.X.mg) : Fn C 1 (He.ga C.X.K "_law_folded") Z.fd__law_folded ["_law_script", "_law_count"] [false, false] P__law_folded := ⟨ok__law_folded Z, Z.F__law_folded.kp, bd__law_folded Z.F__law_folded⟩
def m__law_take : M Fl :=
  (sSeq (sIf (tB (e2 fGt (oV (eIx (oS 0) (oV (eC (.int 0))))) (oV (eC (.int 0))))) (sSeq (sSet 3 (e2 fMod (oV (eIx (oS 0) (oV (eC (.int 0))))) (oS 1)))
  (sSeq (sSub 0 (oV (eC (.int 0))) (e2 fDiv (oV (eIx (oS 0) (oV (eC (.int 0))))) (oS 1)))
  (sSeq (sRetV 3)
  sNil))) sNil)
  (sSeq (sSub 0 (oV (eC (.int 2))) (e2 fAdd (oV (eIx (oS 0) (oV (eC (.int 2))))) (oV (eC (.int 1)))))
  (sSeq (sSet 2 (e2 fMod (oV (e2 fPow (oV (e2A gAdd (oV (eIx (oS 0) (oV (eC (.int 1))))) (oV (e2A gMul (oV (eC (.int 39373))) (oV (eIx (oS 0) (oV (eC (.int 2))))))))) (oV (eC (.int 5))))) (oV (eC (.int 2147483647)))))
  (sSeq (sRet (e2 fMod (oV (e2 fDiv (oV (e2 fMod (oV (e2 fAdd (oV (e2 fMul (oS 2) (oV (e2 fAdd (oV (e2 fMod (oS 2) (oV (eC (.int 40009))))) (oV (eC (.int 7))))))) (oV (e2A gMul (oV (eIx (oS 0) (oV (eC (.int 2))))) (oV (eC (.int 7919))))))) (oV (eC (.int 2147483629))))) (oV (eC (.int 64))))) (oS 1)))
  sNil))))
theorem b__law_take (Z : FX K mg) {lv : Nat} (hlv : 0 ≤ lv) {f : Addr} {cdv : Value} {A : Around} {outer : List Env} {s : Shared} {H : Hp} {E : XK} {vs : List V} (k : (ctOf P w K mg base ["_law_box_here", "_law_top", "_law_once", "_law_found"] "_law_take" (defScope s__law_take) f cdv A outer s H E [true, false] vs).Ok lv) : SSs (ctOf P w K mg base ["_law_box_here", "_law_top", "_law_once", "_law_found"] "_law_take" (defScope s__law_take) f cdv A outer s H E [true, false] vs) (defBody s__law_take) (m__law_take) :=
  (ss_cons (ss_if (st_cmp (sc_gt) two_fGt (so_v (se_ix (so_s 0) (so_v se_int))) (so_v se_int)) (ss_cons (ss_set k (i := 3) (se_op sc_mod two_mod (so_v (se_ix (so_s 0) (so_v se_int))) (so_s 1)))
  (ss_cons (ss_sub (i := 0) (so_v se_int) (se_op sc_div two_div (so_v (se_ix (so_s 0) (so_v se_int))) (so_s 1)))
  (ss_cons (ss_retV (i := 3))
  ss_nil))) ss_nil)
  (ss_cons (ss_sub (i := 0) (so_v se_int) (se_op sc_add two_add (so_v (se_ix (so_s 0) (so_v se_int))) (so_v se_int)))
  (ss_cons (ss_set k (i := 2) (se_op sc_mod two_mod (so_v (se_op sc_pow two_pow (so_v (se_opA a_add (so_v (se_ix (so_s 0) (so_v se_int))) (so_v (se_opA a_mul (so_v se_int) (so_v (se_ix (so_s 0) (so_v se_int))))))) (so_v se_int))) (so_v se_int)))
  (ss_cons (ss_ret (se_op sc_mod two_mod (so_v (se_op sc_div two_div (so_v (se_op sc_mod two_mod (so_v (se_op sc_add two_add (so_v (se_op sc_mul two_mul (so_s 2) (so_v (se_op sc_add two_add (so_v (se_op sc_mod two_mod (so_s 2) (so_v se_int))) (so_v se_int))))) (so_v (se_opA a_mul (so_v (se_ix (so_s 0) (so_v se_int))) (so_v se_int))))) (so_v se_int))) (so_v se_int))) (so_s 1)))
  ss_nil))))
theorem O__law_take : ∃ f : List D → Cr, f = runDef [true, false] 4 m__law_take := ⟨_, rfl⟩
noncomputable def P__law_take : List D → Cr := Classical.choose O__law_take
theorem P__law_take_eq : P__law_take = runDef [true, false] 4 m__law_take := Classical.choose_spec O__law_take
theorem ok__law_take (Z : FX K mg) : FnG P w K mg base (L2.CX P w) 1 (He.ga K "_law_take") Z.fd__law_take ["_law_box_here", "_law_top"] (spF K [true, false] P__law_take) := def_ok Z.F__law_take sc__law_take [true, false] P__law_take m__law_take rfl (fun _ _ _ _ _ _ _ _ k => b__law_take Z (by omega) k) (fun _ _ _ => by rw [P__law_take_eq]; rfl)
theorem fn__law_take {C : Ct} (Z : FX C.X.K C.X.mg) : Fn C 1 (He.ga C.X.K "_law_take") Z.fd__law_take ["_law_box_here", "_law_top"] [true, false] P__law_take := ⟨ok__law_take Z, Z.F__law_take.kp, bd__law_take Z.F__law_take⟩
noncomputable def m__law_pick : M Fl :=
  (sSeq (sRet (eIx (oS 1) (oV (eCall [true, false] P__law_take (aCons (oS 0) (aCons (oV (opS fLen (aCons (oS 1) aNil))) aNil))))))
  sNil)
theorem b__law_pick (Z : FX K mg) {lv : Nat} (hlv : 1 ≤ lv) {f : Addr} {cdv : Value} {A : Around} {outer : List Env} {s : Shared} {H : Hp} {E : XK} {vs : List V} (k : (ctOf P w K mg base ["_law_box_here", "_law_things"] "_law_pick" (defScope s__law_pick) f cdv A outer s H E [true, false] vs).Ok lv) : SSs (ctOf P w K mg base ["_law_box_here", "_law_things"] "_law_pick" (defScope s__law_pick) f cdv A outer s H E [true, false] vs) (defBody s__law_pick) (m__law_pick) :=
  (ss_cons (ss_ret (se_ix (so_s 1) (so_v (se_call k (fn__law_take Z) Z.g__law_take (sa_cons (so_s 0) (sa_cons (so_v (se_callB (x := "len") sn_len rfl Z.n_len (by decide +kernel) (sa_cons (so_s 1) sa_nil))) sa_nil)) (hle := by omega)))))
  ss_nil)
theorem O__law_pick : ∃ f : List D → Cr, f = runDef [true, false] 2 m__law_pick := ⟨_, rfl⟩
noncomputable def P__law_pick : List D → Cr := Classical.choose O__law_pick
theorem P__law_pick_eq : P__law_pick = runDef [true, false] 2 m__law_pick := Classical.choose_spec O__law_pick
theorem ok__law_pick (Z : FX K mg) : FnG P w K mg base (L2.CX P w) 2 (He.ga K "_law_pick") Z.fd__law_pick ["_law_box_here", "_law_things"] (spF K [true, false] P__law_pick) := def_ok Z.F__law_pick sc__law_pick [true, false] P__law_pick m__law_pick rfl (fun _ _ _ _ _ _ _ _ k => b__law_pick Z (by omega) k) (fun _ _ _ => by rw [P__law_pick_eq]; rfl)
theorem fn__law_pick {C : Ct} (Z : FX C.X.K C.X.mg) : Fn C 2 (He.ga C.X.K "_law_pick") Z.fd__law_pick ["_law_box_here", "_law_things"] [true, false] P__law_pick := ⟨ok__law_pick Z, Z.F__law_pick.kp, bd__law_pick Z.F__law_pick⟩
noncomputable def m__law_bent : M Fl :=
  (sSeq (sPar [3, 4, 5] (aCons (oV (opA gList (aCons (oS 1) aNil))) (aCons (oV (eFr (eCall [true, false] P__law_take (aCons (oS 0) (aCons (oV (opS fLen (aCons (oS 1) aNil))) aNil))))) (aCons (oV (eFr (eCall [true, false] P__law_take (aCons (oS 0) (aCons (oV (eC (.int 8))) aNil))))) aNil))))
  (sSeq (sSet 2 (eFr (eLst (aCons (oV (eC .non)) (aCons (oV (eC (.bl true))) (aCons (oV (eC (.bl false))) (aCons (oV (eNeg (eC (.int 1)))) (aCons (oV (opS fLen (aCons (oS 3) aNil))) (aCons (oV (eC (.str "0"))) (aCons (oV (eTup (aCons (oV (eC (.int 0))) aNil))) (aCons (oV (eLst (aCons (oV (eC (.int 0))) aNil))) (aCons (oV (eC (.int 0))) (aCons (oV (e2 fSub (oV (eC (.int 0))) (oV (opS fLen (aCons (oS 3) aNil))))) (aCons (oV (eC (.str ""))) aNil))))))))))))))
  (sSeq (sIf (tB (e2 fLt (oS 5) (oV (eC (.int 2))))) (sSeq (sSub 3 (oS 4) (eCall [true, false] P__law_pick (aCons (oS 0) (aCons (oS 2) aNil))))
  sNil) (sSeq (sIf (tB (e2 fEq (oS 5) (oV (eC (.int 2))))) (sSeq (sSub 3 (oS 4) (eIf (tTr (oV (opS fIsi (aCons (oV (eIx (oS 3) (oS 4))) (aCons (oV (eC (.ty "int"))) aNil))))) (e2A gAddX (oV (eIx (oS 3) (oS 4))) (oV (eIx (oV (eLst (aCons (oV (eC (.int 1))) (aCons (oV (eNeg (eC (.int 1)))) aNil)))) (oV (eCall [true, false] P__law_take (aCons (oS 0) (aCons (oV (eC (.int 2))) aNil))))))) (eC (.int 0))))
  sNil) (sSeq (sIf (tB (e2 fEq (oS 5) (oV (eC (.int 3))))) (sSeq (sEx (eInsF 3 (aCons (oV (eCall [true, false] P__law_take (aCons (oS 0) (aCons (oV (e2 fAdd (oV (opS fLen (aCons (oS 3) aNil))) (oV (eC (.int 1))))) aNil)))) (aCons (oV (eCall [true, false] P__law_pick (aCons (oS 0) (aCons (oV (e2A gAddX (oS 2) (oV (eLst (aCons (oV (eIx (oS 3) (oS 4))) aNil))))) aNil)))) aNil))))
  sNil) (sSeq (sIf (tB (e2 fEq (oS 5) (oV (eC (.int 4))))) (sSeq (sEx (eM2 3 fPopAt (eN 4)))
  sNil) (sSeq (sIf (tB (e2 fEq (oS 5) (oV (eC (.int 5))))) (sSeq (sSet 6 (eFr (eCall [true, false] P__law_take (aCons (oS 0) (aCons (oV (opS fLen (aCons (oS 3) aNil))) aNil)))))
  (sSeq (sSwap 3 (oS 4) (oS 6) (eTup (aCons (oV (eIx (oS 3) (oS 6))) (aCons (oV (eIx (oS 3) (oS 4))) aNil))))
  sNil)) (sSeq (sIf (tB (e2 fEq (oS 5) (oV (eC (.int 6))))) (sSeq (sSub 3 (oS 4) (eIx (oS 3) (oV (eCall [true, false] P__law_take (aCons (oS 0) (aCons (oV (opS fLen (aCons (oS 3) aNil))) aNil))))))
  sNil) (sSeq (sRet (opA gTuple (aCons (oS 3) aNil)))
  sNil))
  sNil))
  sNil))
  sNil))
  sNil))
  sNil))
  (sSeq (sRet (eIf (tB (e2 fNe (oV (eFz 3)) (oV (eLst aNil)))) (eFz 3) (eLst (aCons (oV (eC (.int 0))) aNil))))
  sNil))))
theorem b__law_bent (Z : FX K mg) {lv : Nat} (hlv : 2 ≤ lv) {f : Addr} {cdv : Value} {A : Around} {outer : List Env} {s : Shared} {H : Hp} {E : XK} {vs : List V} (k : (ctOf P w K mg base ["_law_box_here", "_law_thing", "_law_odd", "_law_some", "_law_at", "_law_way", "_law_to"] "_law_bent" (defScope s__law_bent) f cdv A outer s H E [true, false] vs).Ok lv) : SSs (ctOf P w K mg base ["_law_box_here", "_law_thing", "_law_odd", "_law_some", "_law_at", "_law_way", "_law_to"] "_law_bent" (defScope s__law_bent) f cdv A outer s H E [true, false] vs) (defBody s__law_bent) (m__law_bent) :=
  (ss_cons (ss_par3 k (i := 3) (j := 4) (l := 5) (sa_cons (so_v (se_callTyA (x := "list") a_list rfl Z.n_list (by decide +kernel) (sa_cons (so_s 1) sa_nil))) (sa_cons (so_v (se_fr (se_call k (fn__law_take Z) Z.g__law_take (sa_cons (so_s 0) (sa_cons (so_v (se_callB (x := "len") sn_len rfl Z.n_len (by decide +kernel) (sa_cons (so_s 1) sa_nil))) sa_nil)) (hle := by omega)))) (sa_cons (so_v (se_fr (se_call k (fn__law_take Z) Z.g__law_take (sa_cons (so_s 0) (sa_cons (so_v se_int) sa_nil)) (hle := by omega)))) sa_nil))))
  (ss_cons (ss_fr (ss_set k (i := 2) (se_lst (sa_cons (so_v se_non) (sa_cons (so_v se_bl) (sa_cons (so_v se_bl) (sa_cons (so_v (se_neg se_int)) (sa_cons (so_v (se_callB (x := "len") sn_len rfl Z.n_len (by decide +kernel) (sa_cons (so_s 3) sa_nil))) (sa_cons (so_v se_str) (sa_cons (so_v (se_tup (sa_cons (so_v se_int) sa_nil))) (sa_cons (so_v (se_lst (sa_cons (so_v se_int) sa_nil))) (sa_cons (so_v se_int) (sa_cons (so_v (se_op sc_sub two_sub (so_v se_int) (so_v (se_callB (x := "len") sn_len rfl Z.n_len (by decide +kernel) (sa_cons (so_s 3) sa_nil))))) (sa_cons (so_v se_str) sa_nil))))))))))))))
  (ss_cons (ss_if (st_cmp (sc_lt) two_fLt (so_s 5) (so_v se_int)) (ss_cons (ss_sub (i := 3) (so_s 4) (se_call k (fn__law_pick Z) Z.g__law_pick (sa_cons (so_s 0) (sa_cons (so_s 2) sa_nil)) (hle := by omega)))
  ss_nil) (ss_cons (ss_if (st_cmp (sc_eq k.units) two_fEq (so_s 5) (so_v se_int)) (ss_cons (ss_sub (i := 3) (so_s 4) (se_if (st_tr (so_v (se_callB (x := "isinstance") sn_isi rfl Z.n_isinstance (by decide +kernel) (sa_cons (so_v (se_ix (so_s 3) (so_s 4))) (sa_cons (so_v (se_ty (x := "int") rfl Z.n_int (by decide +kernel))) sa_nil))))) (se_opA a_addX (so_v (se_ix (so_s 3) (so_s 4))) (so_v (se_ix (so_v (se_lst (sa_cons (so_v se_int) (sa_cons (so_v (se_neg se_int)) sa_nil)))) (so_v (se_call k (fn__law_take Z) Z.g__law_take (sa_cons (so_s 0) (sa_cons (so_v se_int) sa_nil)) (hle := by omega)))))) se_int))
  ss_nil) (ss_cons (ss_if (st_cmp (sc_eq k.units) two_fEq (so_s 5) (so_v se_int)) (ss_cons (ss_ex (se_insF (i := 3) (sa_cons (so_v (se_call k (fn__law_take Z) Z.g__law_take (sa_cons (so_s 0) (sa_cons (so_v (se_op sc_add two_add (so_v (se_callB (x := "len") sn_len rfl Z.n_len (by decide +kernel) (sa_cons (so_s 3) sa_nil))) (so_v se_int))) sa_nil)) (hle := by omega))) (sa_cons (so_v (se_call k (fn__law_pick Z) Z.g__law_pick (sa_cons (so_s 0) (sa_cons (so_v (se_opA a_addX (so_s 2) (so_v (se_lst (sa_cons (so_v (se_ix (so_s 3) (so_s 4))) sa_nil))))) sa_nil)) (hle := by omega))) sa_nil))))
  ss_nil) (ss_cons (ss_if (st_cmp (sc_eq k.units) two_fEq (so_s 5) (so_v se_int)) (ss_cons (ss_ex (se_m2r (i := 3) m2_pop PySem.F.slot_list_pop PySem.F.type_list_pop (se_n 4)))
  ss_nil) (ss_cons (ss_if (st_cmp (sc_eq k.units) two_fEq (so_s 5) (so_v se_int)) (ss_cons (ss_fr (ss_set k (i := 6) (se_call k (fn__law_take Z) Z.g__law_take (sa_cons (so_s 0) (sa_cons (so_v (se_callB (x := "len") sn_len rfl Z.n_len (by decide +kernel) (sa_cons (so_s 3) sa_nil))) sa_nil)) (hle := by omega))))
  (ss_cons (ss_swap k (i := 3) (so_s 4) (so_s 6) (se_tup (sa_cons (so_v (se_ix (so_s 3) (so_s 6))) (sa_cons (so_v (se_ix (so_s 3) (so_s 4))) sa_nil))))
  ss_nil)) (ss_cons (ss_if (st_cmp (sc_eq k.units) two_fEq (so_s 5) (so_v se_int)) (ss_cons (ss_sub (i := 3) (so_s 4) (se_ix (so_s 3) (so_v (se_call k (fn__law_take Z) Z.g__law_take (sa_cons (so_s 0) (sa_cons (so_v (se_callB (x := "len") sn_len rfl Z.n_len (by decide +kernel) (sa_cons (so_s 3) sa_nil))) sa_nil)) (hle := by omega)))))
  ss_nil) (ss_cons (ss_ret (se_callTyA (x := "tuple") a_tuple rfl Z.n_tuple (by decide +kernel) (sa_cons (so_s 3) sa_nil)))
  ss_nil))
  ss_nil))
  ss_nil))
  ss_nil))
  ss_nil))
  ss_nil))
  (ss_cons (ss_ret (se_if (st_cmp (sc_ne k.units) two_fNe (so_v (se_fz 3)) (so_v (se_lst sa_nil))) (se_fz 3) (se_lst (sa_cons (so_v se_int) sa_nil))))
  ss_nil))))
theorem O__law_bent : ∃ f : List D → Cr, f = runDef [true, false] 7 m__law_bent := ⟨_, rfl⟩
noncomputable def P__law_bent : List D → Cr := Classical.choose O__law_bent
theorem P__law_bent_eq : P__law_bent = runDef [true, false] 7 m__law_bent := Classical.choose_spec O__law_bent
theorem ok__law_bent (Z : FX K mg) : FnG P w K mg base (L2.CX P w) 3 (He.ga K "_law_bent") Z.fd__law_bent ["_law_box_here", "_law_thing"] (spF K [true, false] P__law_bent) := def_ok Z.F__law_bent sc__law_bent [true, false] P__law_bent m__law_bent rfl (fun _ _ _ _ _ _ _ _ k => b__law_bent Z (by omega) k) (fun _ _ _ => by rw [P__law_bent_eq]; rfl)
theorem R__law_bent {x0 x1 : D} {Q : D → List D → Prop} (h : Wx noE (m__law_bent [some x0, some x1, none, none, none, none, none]) (fin [true, false] Q)) : Cw noC (P__law_bent [x0, x1]) Q := by rw [P__law_bent_eq]; exact run_w rfl h
theorem fn__law_bent {C : Ct} (Z : FX C.X.K C.X.mg) : Fn C 3 (He.ga C.X.K "_law_bent") Z.fd__law_bent ["_law_box_here", "_law_thing"] [true, false] P__law_bent := ⟨ok__law_bent Z, Z.F__law_bent.kp, bd__law_bent Z.F__law_bent⟩
def m__law_is_it : M Fl :=
  (sSeq (sIf (tOr (tNot (tTr (oV (opS fIsi (aCons (oS 0) (aCons (oV (eC (.ty "list"))) aNil)))))) (tB (e2 fEq (oS 0) (oV (eLst aNil))))) (sSeq (sRet (eC (.bl false)))
  sNil) sNil)
  (sSeq (sIf (tNot (tTr (oV (opS fAll (aCons (oV (eLc [2] (gN 2) (iSeq (oS 0)) tYesM (eAnd (opS fIsi (aCons (oS 2) (aCons (oV (eC (.ty "int"))) aNil))) (eNot (opS fIsi (aCons (oS 2) (aCons (oV (eC (.ty "bool"))) aNil))))))) aNil))))) (sSeq (sRet (eC (.bl false)))
  sNil) sNil)
  (sSeq (sRet (opS fAll (aCons (oV (eLc [1] (gN 1) (SV.iRng (aCons (oV (opS fLen (aCons (oS 0) aNil))) aNil)) tYesM (e2 fEq (oV (opS fCount (aCons (oTy "list" (oS 0)) (aCons (oS 1) aNil)))) (oV (eC (.int 1)))))) aNil)))
  sNil)))
theorem b__law_is_it (Z : FX K mg) {lv : Nat} (hlv : 0 ≤ lv) {f : Addr} {cdv : Value} {A : Around} {outer : List Env} {s : Shared} {H : Hp} {E : XK} {vs : List V} (k : (ctOf P w K mg base ["_law_thing", "_law_k", "_law_one"] "_law_is_it" (defScope s__law_is_it) f cdv A outer s H E [false] vs).Ok lv) : SSs (ctOf P w K mg base ["_law_thing", "_law_k", "_law_one"] "_law_is_it" (defScope s__law_is_it) f cdv A outer s H E [false] vs) (defBody s__law_is_it) (m__law_is_it) :=
  (ss_cons (ss_if (st_w (sw_or (st_not (st_tr (so_v (se_callB (x := "isinstance") sn_isi rfl Z.n_isinstance (by decide +kernel) (sa_cons (so_s 0) (sa_cons (so_v (se_ty (x := "list") rfl Z.n_list (by decide +kernel))) sa_nil)))))) (sw_or1 (st_cmp (sc_eq k.units) two_fEq (so_s 0) (so_v (se_lst sa_nil)))))) (ss_cons (ss_ret se_bl)
  ss_nil) ss_nil)
  (ss_cons (ss_if (st_not (st_tr (so_v (se_callB (x := "all") (sn_all k.calm) rfl Z.n_all (by decide +kernel) (sa_cons (so_v (se_lc k [("_law_one", 2)] (blkOk_by rfl)  (si_seq (so_s 0)) (fun _ _ _ _ _ => (sg_n k.blk 2)) (fun _ _ _ _ _ => sts_nil) (fun _ _ _ _ _ => (se_and (se_callB (x := "isinstance") sn_isi rfl Z.n_isinstance (by decide +kernel) (sa_cons (so_s 2) (sa_cons (so_v (se_ty (x := "int") rfl Z.n_int (by decide +kernel))) sa_nil))) (se_one (se_not (se_callB (x := "isinstance") sn_isi rfl Z.n_isinstance (by decide +kernel) (sa_cons (so_s 2) (sa_cons (so_v (se_ty (x := "bool") rfl Z.n_bool (by decide +kernel))) sa_nil))))))))) sa_nil))))) (ss_cons (ss_ret se_bl)
  ss_nil) ss_nil)
  (ss_cons (ss_ret (se_callB (x := "all") (sn_all k.calm) rfl Z.n_all (by decide +kernel) (sa_cons (so_v (se_lc k [("_law_k", 1)] (blkOk_by rfl)  (si_range1 (hm := Z.n_range) (ha := (so_v (se_callB (x := "len") sn_len rfl Z.n_len (by decide +kernel) (sa_cons (so_s 0) sa_nil))))) (fun _ _ _ _ _ => (sg_n k.blk 1)) (fun _ _ _ _ _ => sts_nil) (fun _ _ _ _ _ => (se_cmp (sc_eq k.blk.units) two_fEq (so_v (se_mS sm_count PySem.F.plainAttrs_list PySem.F.slot_list_count PySem.F.type_list_count (so_s 0) (sa_cons (so_s 1) sa_nil))) (so_v se_int))))) sa_nil)))
  ss_nil)))
theorem O__law_is_it : ∃ f : List D → Cr, f = runDef [false] 3 m__law_is_it := ⟨_, rfl⟩
noncomputable def P__law_is_it : List D → Cr := Classical.choose O__law_is_it
theorem P__law_is_it_eq : P__law_is_it = runDef [false] 3 m__law_is_it := Classical.choose_spec O__law_is_it
theorem ok__law_is_it (Z : FX K mg) : FnG P w K mg base (L2.CX P w) 1 (He.ga K "_law_is_it") Z.fd__law_is_it ["_law_thing"] (spF K [false] P__law_is_it) := def_ok Z.F__law_is_it sc__law_is_it [false] P__law_is_it m__law_is_it rfl (fun _ _ _ _ _ _ _ _ k => b__law_is_it Z (by omega) k) (fun _ _ _ => by rw [P__law_is_it_eq]; rfl)
theorem R__law_is_it {x0 : D} {Q : D → List D → Prop} (h : Wx noE (m__law_is_it [some x0, none, none]) (fin [false] Q)) : Cw noC (P__law_is_it [x0]) Q := by rw [P__law_is_it_eq]; exact run_w rfl h
theorem fn__law_is_it {C : Ct} (Z : FX C.X.K C.X.mg) : Fn C 1 (He.ga C.X.K "_law_is_it") Z.fd__law_is_it ["_law_thing"] [false] P__law_is_it := ⟨ok__law_is_it Z, Z.F__law_is_it.kp, bd__law_is_it Z.F__law_is_it⟩
def m__law_rounds : M Fl :=
  (sSeq (sPar [2, 3] (aCons (oV (eLst aNil)) (aCons (oV (eFr (eLst aNil))) aNil)))
  (sSeq (sFor (gN 1) (SV.iRng (aCons (oV (opS fLen (aCons (oS 0) aNil))) aNil)) (sSeq (sIf (tB (e2 fNotIn (oS 1) (oS 3))) (sSeq (sPar [5, 6] (aCons (oS 1) (aCons (oV (eLst aNil)) aNil)))
  (sSeq (sFor (gN 4) (SV.iRng (aCons (oV (opS fLen (aCons (oS 0) aNil))) aNil)) (sSeq (sIf (tB (e2 fNotIn (oS 5) (oS 6))) (sSeq (sEx (eM1 6 fApp (eN 5)))
  (sSeq (sSet 5 (eFr (eIx (oS 0) (oS 5))))
  sNil)) sNil)
  sNil))
  (sSeq (sSet 3 (eFr (e2A gAdd (oS 3) (oV (eFz 6)))))
  (sSeq (sSet 2 (e2A gAdd (oS 2) (oV (e2A gMul (oV (eLst (aCons (oV (eFz 6)) aNil))) (oV (opS fInt (aCons (oV (e2 fGt (oV (opS fLen (aCons (oV (eFz 6)) aNil))) (oV (eC (.int 1))))) aNil)))))))
  sNil)))) sNil)
  sNil))
  (sSeq (sRetV 2)
  sNil)))
theorem b__law_rounds (Z : FX K mg) {lv : Nat} (hlv : 0 ≤ lv) {f : Addr} {cdv : Value} {A : Around} {outer : List Env} {s : Shared} {H : Hp} {E : XK} {vs : List V} (k : (ctOf P w K mg base ["_law_row", "_law_begin", "_law_found", "_law_met", "_law_turn", "_law_here", "_law_going"] "_law_rounds" (defScope s__law_rounds) f cdv A outer s H E [false] vs).Ok lv) : SSs (ctOf P w K mg base ["_law_row", "_law_begin", "_law_found", "_law_met", "_law_turn", "_law_here", "_law_going"] "_law_rounds" (defScope s__law_rounds) f cdv A outer s H E [false] vs) (defBody s__law_rounds) (m__law_rounds) :=
  (ss_cons (ss_par k (i := 2) (j := 3) (sa_cons (so_v (se_lst sa_nil)) (sa_cons (so_v (se_fr (se_lst sa_nil))) sa_nil)))
  (ss_cons (ss_for k (si_range1 (hm := Z.n_range) (ha := (so_v (se_callB (x := "len") sn_len rfl Z.n_len (by decide +kernel) (sa_cons (so_s 0) sa_nil))))) (sg_n k 1) (ss_cons (ss_if (st_cmp (sc_notIn) two_fNotIn (so_s 1) (so_s 3)) (ss_cons (ss_par k (i := 5) (j := 6) (sa_cons (so_s 1) (sa_cons (so_v (se_lst sa_nil)) sa_nil)))
  (ss_cons (ss_for k (si_range1 (hm := Z.n_range) (ha := (so_v (se_callB (x := "len") sn_len rfl Z.n_len (by decide +kernel) (sa_cons (so_s 0) sa_nil))))) (sg_n k 4) (ss_cons (ss_if (st_cmp (sc_notIn) two_fNotIn (so_s 5) (so_s 6)) (ss_cons (ss_ex (se_m1 (i := 6) m1_append PySem.F.slot_list_append PySem.F.type_list_append (se_n 5)))
  (ss_cons (ss_fr (ss_set k (i := 5) (se_ix (so_s 0) (so_s 5))))
  ss_nil)) ss_nil)
  ss_nil))
  (ss_cons (ss_fr (ss_set k (i := 3) (se_opA a_add (so_s 3) (so_v (se_fz 6)))))
  (ss_cons (ss_set k (i := 2) (se_opA a_add (so_s 2) (so_v (se_opA a_mul (so_v (se_lst (sa_cons (so_v (se_fz 6)) sa_nil))) (so_v (se_callTy (x := "int") sn_int rfl Z.n_int (by decide +kernel) (sa_cons (so_v (se_cmp (sc_gt) two_fGt (so_v (se_callB (x := "len") sn_len rfl Z.n_len (by decide +kernel) (sa_cons (so_v (se_fz 6)) sa_nil))) (so_v se_int))) sa_nil)))))))
  ss_nil)))) ss_nil)
  ss_nil))
  (ss_cons (ss_retV (i := 2))
  ss_nil)))
theorem O__law_rounds : ∃ f : List D → Cr, f = runDef [false] 7 m__law_rounds := ⟨_, rfl⟩
noncomputable def P__law_rounds : List D → Cr := Classical.choose O__law_rounds
theorem P__law_rounds_eq : P__law_rounds = runDef [false] 7 m__law_rounds := Classical.choose_spec O__law_rounds
theorem ok__law_rounds (Z : FX K mg) : FnG P w K mg base (L2.CX P w) 1 (He.ga K "_law_rounds") Z.fd__law_rounds ["_law_row"] (spF K [false] P__law_rounds) := def_ok Z.F__law_rounds sc__law_rounds [false] P__law_rounds m__law_rounds rfl (fun _ _ _ _ _ _ _ _ k => b__law_rounds Z (by omega) k) (fun _ _ _ => by rw [P__law_rounds_eq]; rfl)
theorem R__law_rounds {x0 : D} {Q : D → List D → Prop} (h : Wx noE (m__law_rounds [some x0, none, none, none, none, none, none]) (fin [false] Q)) : Cw noC (P__law_rounds [x0]) Q := by rw [P__law_rounds_eq]; exact run_w rfl h
theorem fn__law_rounds {C : Ct} (Z : FX C.X.K C.X.mg) : Fn C 1 (He.ga C.X.K "_law_rounds") Z.fd__law_rounds ["_law_row"] [false] P__law_rounds := ⟨ok__law_rounds Z, Z.F__law_rounds.kp, bd__law_rounds Z.F__law_rounds⟩
def m__law_same (Φ : List D → Cr) : M Fl :=
  (sSeq (sIf (tTr (oV (opS fIsi (aCons (oS 1) (aCons (oV (eTup (aCons (oV (eC (.ty "list"))) (aCons (oV (eC (.ty "tuple"))) aNil)))) aNil))))) (sSeq (sIf (tOr (tB (e2 fNe (oV (opS fIsi (aCons (oS 0) (aCons (oV (eC (.ty "list"))) aNil)))) (oV (opS fIsi (aCons (oS 1) (aCons (oV (eC (.ty "list"))) aNil)))))) (tB (e2 fNe (oV (opS fIsi (aCons (oS 0) (aCons (oV (eC (.ty "tuple"))) aNil)))) (oV (opS fIsi (aCons (oS 1) (aCons (oV (eC (.ty "tuple"))) aNil))))))) (sSeq (sRet (eC (.bl false)))
  sNil) sNil)
  (sSeq (sIf (tB (e2 fNe (oV (opS fLen (aCons (oS 0) aNil))) (oV (opS fLen (aCons (oS 1) aNil))))) (sSeq (sRet (eC (.bl false)))
  sNil) sNil)
  (sSeq (sRet (opS fAll (aCons (oV (eLc [2, 3] (gTup 2 (gCons (gN 2) (gCons (gN 3) gNil))) (SV.iZip (oS 0) (oS 1)) tYesM (eCall [false, false] Φ (aCons (oS 2) (aCons (oS 3) aNil))))) aNil)))
  sNil))) sNil)
  (sSeq (sIf (tOr (tB (e2 fIs (oS 1) (oV (eC .non)))) (tTr (oV (opS fIsi (aCons (oS 1) (aCons (oV (eC (.ty "str"))) aNil)))))) (sSeq (sRet (eAnd (e2 fEq (oS 0) (oS 1)) (e2 fEq (oV (opS fIsi (aCons (oS 0) (aCons (oV (eC (.ty "str"))) aNil)))) (oV (opS fIsi (aCons (oS 1) (aCons (oV (eC (.ty "str"))) aNil)))))))
  sNil) sNil)
  (sSeq (sRet (eAnd (opS fIsi (aCons (oS 0) (aCons (oV (eC (.ty "int"))) aNil))) (eAnd (e2 fEq (oV (opS fIsi (aCons (oS 0) (aCons (oV (eC (.ty "bool"))) aNil)))) (oV (opS fIsi (aCons (oS 1) (aCons (oV (eC (.ty "bool"))) aNil))))) (e2 fEq (oS 0) (oS 1)))))
  sNil)))
theorem b__law_same (Z : FX K mg) {lv : Nat} (hlv : 0 ≤ lv) {Φ : List D → Cr} {j : Nat} (FS : FnG P w K mg base (L2.CX P w) j (He.ga K "_law_same") Z.fd__law_same ["_law_found", "_law_due"] (spF K [false, false] Φ)) (hj : j ≤ lv) {f : Addr} {cdv : Value} {A : Around} {outer : List Env} {s : Shared} {H : Hp} {E : XK} {vs : List V} (k : (ctOf P w K mg base ["_law_found", "_law_due", "_law_one", "_law_two"] "_law_same" (defScope s__law_same) f cdv A outer s H E [false, false] vs).Ok lv) : SSs (ctOf P w K mg base ["_law_found", "_law_due", "_law_one", "_law_two"] "_law_same" (defScope s__law_same) f cdv A outer s H E [false, false] vs) (defBody s__law_same) (m__law_same Φ) :=
  (ss_cons (ss_if (st_tr (so_v (se_callB (x := "isinstance") sn_isi rfl Z.n_isinstance (by decide +kernel) (sa_cons (so_s 1) (sa_cons (so_v (se_tup (sa_cons (so_v (se_ty (x := "list") rfl Z.n_list (by decide +kernel))) (sa_cons (so_v (se_ty (x := "tuple") rfl Z.n_tuple (by decide +kernel))) sa_nil)))) sa_nil))))) (ss_cons (ss_if (st_w (sw_or (st_cmp (sc_ne k.units) two_fNe (so_v (se_callB (x := "isinstance") sn_isi rfl Z.n_isinstance (by decide +kernel) (sa_cons (so_s 0) (sa_cons (so_v (se_ty (x := "list") rfl Z.n_list (by decide +kernel))) sa_nil)))) (so_v (se_callB (x := "isinstance") sn_isi rfl Z.n_isinstance (by decide +kernel) (sa_cons (so_s 1) (sa_cons (so_v (se_ty (x := "list") rfl Z.n_list (by decide +kernel))) sa_nil))))) (sw_or1 (st_cmp (sc_ne k.units) two_fNe (so_v (se_callB (x := "isinstance") sn_isi rfl Z.n_isinstance (by decide +kernel) (sa_cons (so_s 0) (sa_cons (so_v (se_ty (x := "tuple") rfl Z.n_tuple (by decide +kernel))) sa_nil)))) (so_v (se_callB (x := "isinstance") sn_isi rfl Z.n_isinstance (by decide +kernel) (sa_cons (so_s 1) (sa_cons (so_v (se_ty (x := "tuple") rfl Z.n_tuple (by decide +kernel))) sa_nil)))))))) (ss_cons (ss_ret se_bl)
  ss_nil) ss_nil)
  (ss_cons (ss_if (st_cmp (sc_ne k.units) two_fNe (so_v (se_callB (x := "len") sn_len rfl Z.n_len (by decide +kernel) (sa_cons (so_s 0) sa_nil))) (so_v (se_callB (x := "len") sn_len rfl Z.n_len (by decide +kernel) (sa_cons (so_s 1) sa_nil)))) (ss_cons (ss_ret se_bl)
  ss_nil) ss_nil)
  (ss_cons (ss_ret (se_callB (x := "all") (sn_all k.calm) rfl Z.n_all (by decide +kernel) (sa_cons (so_v (se_lc k [("_law_one", 2), ("_law_two", 3)] (blkOk_by rfl)  (si_zip (hm := Z.n_zip) (ha := (so_s 0)) (hb := (so_s 1))) (fun _ _ _ _ _ => (sg_tup k.blk (sgs_cons (sg_n k.blk 2) (sgs_cons (sg_n k.blk 3) sgs_nil)))) (fun _ _ _ _ _ => sts_nil) (fun _ _ _ _ _ => (se_call k.blk (Φ := Φ) ⟨FS, (Z.F__law_same).kp, bd__law_same Z.F__law_same⟩ Z.g__law_same (sa_cons (so_s 2) (sa_cons (so_s 3) sa_nil)) (hle := by omega))))) sa_nil)))
  ss_nil))) ss_nil)
  (ss_cons (ss_if (st_w (sw_or (st_cmp (sc_is) two_fIs (so_s 1) (so_v se_non)) (sw_or1 (st_tr (so_v (se_callB (x := "isinstance") sn_isi rfl Z.n_isinstance (by decide +kernel) (sa_cons (so_s 1) (sa_cons (so_v (se_ty (x := "str") rfl Z.n_str (by decide +kernel))) sa_nil)))))))) (ss_cons (ss_ret (se_and (se_cmp (sc_eq k.units) two_fEq (so_s 0) (so_s 1)) (se_one (se_cmp (sc_eq k.units) two_fEq (so_v (se_callB (x := "isinstance") sn_isi rfl Z.n_isinstance (by decide +kernel) (sa_cons (so_s 0) (sa_cons (so_v (se_ty (x := "str") rfl Z.n_str (by decide +kernel))) sa_nil)))) (so_v (se_callB (x := "isinstance") sn_isi rfl Z.n_isinstance (by decide +kernel) (sa_cons (so_s 1) (sa_cons (so_v (se_ty (x := "str") rfl Z.n_str (by decide +kernel))) sa_nil))))))))
  ss_nil) ss_nil)
  (ss_cons (ss_ret (se_and (se_callB (x := "isinstance") sn_isi rfl Z.n_isinstance (by decide +kernel) (sa_cons (so_s 0) (sa_cons (so_v (se_ty (x := "int") rfl Z.n_int (by decide +kernel))) sa_nil))) (se_and (se_cmp (sc_eq k.units) two_fEq (so_v (se_callB (x := "isinstance") sn_isi rfl Z.n_isinstance (by decide +kernel) (sa_cons (so_s 0) (sa_cons (so_v (se_ty (x := "bool") rfl Z.n_bool (by decide +kernel))) sa_nil)))) (so_v (se_callB (x := "isinstance") sn_isi rfl Z.n_isinstance (by decide +kernel) (sa_cons (so_s 1) (sa_cons (so_v (se_ty (x := "bool") rfl Z.n_bool (by decide +kernel))) sa_nil))))) (se_one (se_cmp (sc_eq k.units) two_fEq (so_s 0) (so_s 1))))))
  ss_nil)))
def Q__law_same : Nat → List D → Cr
  | 0 => fun _ => .stuck
  | n + 1 => runDef [false, false] 4 (m__law_same (Q__law_same n))
theorem O__law_same : ∃ f : Nat → List D → Cr, (∀ ds, f 0 ds = .stuck) ∧ ∀ n, f (n + 1) = runDef [false, false] 4 (m__law_same (f n)) := ⟨Q__law_same, fun _ => rfl, fun _ => rfl⟩
noncomputable def P__law_same : Nat → List D → Cr := Classical.choose O__law_same
theorem P__law_same_0 {ds : List D} : P__law_same 0 ds = .stuck := (Classical.choose_spec O__law_same).1 ds
theorem P__law_same_s {n : Nat} : P__law_same (n + 1) = runDef [false, false] 4 (m__law_same (P__law_same n)) := (Classical.choose_spec O__law_same).2 n
noncomputable def P__law_same_ : List D → Cr := P__law_same 40
theorem okn__law_same (Z : FX K mg) : ∀ n, FnG P w K mg base (L2.CX P w) (n + 1) (He.ga K "_law_same") Z.fd__law_same ["_law_found", "_law_due"] (spF K [false, false] (P__law_same n))
  | 0 => ⟨fun vs H Q E ⟨_, _, a, _⟩ => by rw [a.len]; rfl, fun _ _ _ _ _ _ _ _ _ _ _ _ _ ⟨_, _, _, h⟩ => by rw [P__law_same_0] at h; exact h.elim⟩
  | n + 1 => def_ok Z.F__law_same sc__law_same [false, false] (P__law_same (n + 1)) (m__law_same (P__law_same n)) rfl (fun _ _ _ _ _ _ _ _ k => b__law_same Z (by omega) (okn__law_same Z n) (by omega) k) (fun _ _ _ => by rw [P__law_same_s]; rfl)
theorem ok__law_same (Z : FX K mg) : FnG P w K mg base (L2.CX P w) 41 (He.ga K "_law_same") Z.fd__law_same ["_law_found", "_law_due"] (spF K [false, false] P__law_same_) := okn__law_same Z 40
theorem fn__law_same {C : Ct} (Z : FX C.X.K C.X.mg) : Fn C 41 (He.ga C.X.K "_law_same") Z.fd__law_same ["_law_found", "_law_due"] [false, false] P__law_same_ := ⟨ok__law_same Z, Z.F__law_same.kp, bd__law_same Z.F__law_same⟩
noncomputable def m__law_shuffled : M Fl :=
  (sSeq (sPar [4, 5] (aCons (oV (eLR (aCons (oS 1) aNil))) (aCons (oV (eFr (eCall [true, false] P__law_take (aCons (oS 0) (aCons (oV (eC (.int 6))) aNil))))) aNil)))
  (sSeq (sIf (tB (e2 fEq (oS 5) (oV (eC (.int 0))))) (sSeq (sRetV 4)
  sNil) sNil)
  (sSeq (sIf (tB (e2 fEq (oS 5) (oV (eC (.int 1))))) (sSeq (sRet (e2A gAdd (oV (opA (gSl true false) (aCons (oS 4) (aCons (oV (eC (.int 1))) aNil)))) (oV (opA (gSl false true) (aCons (oS 4) (aCons (oV (eC (.int 1))) aNil))))))
  sNil) sNil)
  (sSeq (sIf (tB (e2 fEq (oS 5) (oV (eC (.int 2))))) (sSeq (sRet (eLc [6] (gN 6) (iSeq (oV (eFz 4))) tYesM (eIf (tOr (tB (e2 fLt (oV (e2 fAdd (oS 6) (oV (eC (.int 1))))) (oS 1))) (tB (e2 fEq (oV (e2 fMod (oS 6) (oV (eC (.int 2))))) (oV (eC (.int 1)))))) (e2 fSub (oV (e2 fAdd (oS 6) (oV (eC (.int 1))))) (oV (e2 fMul (oV (eC (.int 2))) (oV (e2 fMod (oS 6) (oV (eC (.int 2)))))))) (eN 6))))
  sNil) sNil)
  (sSeq (sSet 2 (eLst aNil))
  (sSeq (sFor (gN 3) (SV.iRng (aCons (oS 1) aNil)) (sSeq (sEx (eM1 2 fApp (eM2 4 fPopAt (eCall [true, false] P__law_take (aCons (oS 0) (aCons (oV (opS fLen (aCons (oS 4) aNil))) aNil))))))
  sNil))
  (sSeq (sRetV 2)
  sNil)))))))
theorem b__law_shuffled (Z : FX K mg) {lv : Nat} (hlv : 1 ≤ lv) {f : Addr} {cdv : Value} {A : Around} {outer : List Env} {s : Shared} {H : Hp} {E : XK} {vs : List V} (k : (ctOf P w K mg base ["_law_box_here", "_law_count", "_law_found", "_law_turn", "_law_some", "_law_way", "_law_one"] "_law_shuffled" (defScope s__law_shuffled) f cdv A outer s H E [true, false] vs).Ok lv) : SSs (ctOf P w K mg base ["_law_box_here", "_law_count", "_law_found", "_law_turn", "_law_some", "_law_way", "_law_one"] "_law_shuffled" (defScope s__law_shuffled) f cdv A outer s H E [true, false] vs) (defBody s__law_shuffled) (m__law_shuffled) :=
  (ss_cons (ss_par k (i := 4) (j := 5) (sa_cons (so_v (se_listR1 k rfl Z.n_list rfl Z.n_range (so_s 1))) (sa_cons (so_v (se_fr (se_call k (fn__law_take Z) Z.g__law_take (sa_cons (so_s 0) (sa_cons (so_v se_int) sa_nil)) (hle := by omega)))) sa_nil)))
  (ss_cons (ss_if (st_cmp (sc_eq k.units) two_fEq (so_s 5) (so_v se_int)) (ss_cons (ss_retV (i := 4))
  ss_nil) ss_nil)
  (ss_cons (ss_if (st_cmp (sc_eq k.units) two_fEq (so_s 5) (so_v se_int)) (ss_cons (ss_ret (se_opA a_add (so_v (se_sl10 (so_s 4) (so_v se_int))) (so_v (se_sl01 (so_s 4) (so_v se_int)))))
  ss_nil) ss_nil)
  (ss_cons (ss_if (st_cmp (sc_eq k.units) two_fEq (so_s 5) (so_v se_int)) (ss_cons (ss_ret (se_lc k [("_law_one", 6)] (blkOk_by rfl)  (si_seq (so_v (se_fz 4))) (fun _ _ _ _ _ => (sg_n k.blk 6)) (fun _ _ _ _ _ => sts_nil) (fun _ _ _ _ _ => (se_if (st_w (sw_or (st_cmp (sc_lt) two_fLt (so_v (se_op sc_add two_add (so_s 6) (so_v se_int))) (so_s 1)) (sw_or1 (st_cmp (sc_eq k.blk.units) two_fEq (so_v (se_op sc_mod two_mod (so_s 6) (so_v se_int))) (so_v se_int))))) (se_op sc_sub two_sub (so_v (se_op sc_add two_add (so_s 6) (so_v se_int))) (so_v (se_op sc_mul two_mul (so_v se_int) (so_v (se_op sc_mod two_mod (so_s 6) (so_v se_int)))))) (se_n 6)))))
  ss_nil) ss_nil)
  (ss_cons (ss_set k (i := 2) (se_lst sa_nil))
  (ss_cons (ss_for k (si_range1 (hm := Z.n_range) (ha := (so_s 1))) (sg_n k 3) (ss_cons (ss_ex (se_m1 (i := 2) m1_append PySem.F.slot_list_append PySem.F.type_list_append (se_m2r (i := 4) m2_pop PySem.F.slot_list_pop PySem.F.type_list_pop (se_call k (fn__law_take Z) Z.g__law_take (sa_cons (so_s 0) (sa_cons (so_v (se_callB (x := "len") sn_len rfl Z.n_len (by decide +kernel) (sa_cons (so_s 4) sa_nil))) sa_nil)) (hle := by omega)))))
  ss_nil))
  (ss_cons (ss_retV (i := 2))
  ss_nil)))))))
theorem O__law_shuffled : ∃ f : List D → Cr, f = runDef [true, false] 7 m__law_shuffled := ⟨_, rfl⟩
noncomputable def P__law_shuffled : List D → Cr := Classical.choose O__law_shuffled
theorem P__law_shuffled_eq : P__law_shuffled = runDef [true, false] 7 m__law_shuffled := Classical.choose_spec O__law_shuffled
theorem ok__law_shuffled (Z : FX K mg) : FnG P w K mg base (L2.CX P w) 2 (He.ga K "_law_shuffled") Z.fd__law_shuffled ["_law_box_here", "_law_count"] (spF K [true, false] P__law_shuffled) := def_ok Z.F__law_shuffled sc__law_shuffled [true, false] P__law_shuffled m__law_shuffled rfl (fun _ _ _ _ _ _ _ _ k => b__law_shuffled Z (by omega) k) (fun _ _ _ => by rw [P__law_shuffled_eq]; rfl)
theorem R__law_shuffled {x0 x1 : D} {Q : D → List D → Prop} (h : Wx noE (m__law_shuffled [some x0, some x1, none, none, none, none, none]) (fin [true, false] Q)) : Cw noC (P__law_shuffled [x0, x1]) Q := by rw [P__law_shuffled_eq]; exact run_w rfl h
theorem fn__law_shuffled {C : Ct} (Z : FX C.X.K C.X.mg) : Fn C 2 (He.ga C.X.K "_law_shuffled") Z.fd__law_shuffled ["_law_box_here", "_law_count"] [true, false] P__law_shuffled := ⟨ok__law_shuffled Z, Z.F__law_shuffled.kp, bd__law_shuffled Z.F__law_shuffled⟩
def m_inverse_order : M Fl :=
  (sSeq (sSet 1 (eFr (eDc [2, 3] (gTup 2 (gCons (gN 3) (gCons (gN 2) gNil))) (SV.iEnumS (oS 0)) tYesM (eN 2) (eN 3))))
  (sSeq (sRet (eLc [2] (gN 2) (SV.iRng (aCons (oV (opS fLen (aCons (oS 0) aNil))) aNil)) tYesM (eKx (oS 1) (oS 2))))
  sNil))
theorem b_inverse_order (Z : FX K mg) {lv : Nat} (hlv : 0 ≤ lv) {f : Addr} {cdv : Value} {A : Around} {outer : List Env} {s : Shared} {H : Hp} {E : XK} {vs : List V} (k : (ctOf P w K mg base ["order", "back", "place", "at"] "inverse_order" (defScope s_inverse_order) f cdv A outer s H E [false] vs).Ok lv) : SSs (ctOf P w K mg base ["order", "back", "place", "at"] "inverse_order" (defScope s_inverse_order) f cdv A outer s H E [false] vs) (defBody s_inverse_order) (m_inverse_order) :=
  (ss_cons (ss_fr (ss_set k (i := 1) (se_dc k [("place", 2), ("at", 3)] (blkOk_by rfl)  (si_enumS (hm := Z.n_enumerate) (h := (so_s 0))) (fun _ _ _ _ _ => (sg_tup k.blk (sgs_cons (sg_n k.blk 3) (sgs_cons (sg_n k.blk 2) sgs_nil)))) (fun _ _ _ _ _ => sts_nil) (fun _ _ _ _ _ => (se_n 2)) (fun _ _ _ _ _ => (se_n 3)))))
  (ss_cons (ss_ret (se_lc k [("place", 2)] (blkOk_by rfl)  (si_range1 (hm := Z.n_range) (ha := (so_v (se_callB (x := "len") sn_len rfl Z.n_len (by decide +kernel) (sa_cons (so_s 0) sa_nil))))) (fun _ _ _ _ _ => (sg_n k.blk 2)) (fun _ _ _ _ _ => sts_nil) (fun _ _ _ _ _ => (se_kx k.blk (so_s 1) (so_s 2)))))
  ss_nil))
theorem O_inverse_order : ∃ f : List D → Cr, f = runDef [false] 4 m_inverse_order := ⟨_, rfl⟩
noncomputable def P_inverse_order : List D → Cr := Classical.choose O_inverse_order
theorem P_inverse_order_eq : P_inverse_order = runDef [false] 4 m_inverse_order := Classical.choose_spec O_inverse_order
theorem ok_inverse_order (Z : FX K mg) : FnG P w K mg base (L2.CX P w) 1 (He.ga K "inverse_order") Z.fd_inverse_order ["order"] (spF K [false] P_inverse_order) := def_ok Z.F_inverse_order sc_inverse_order [false] P_inverse_order m_inverse_order rfl (fun _ _ _ _ _ _ _ _ k => b_inverse_order Z (by omega) k) (fun _ _ _ => by rw [P_inverse_order_eq]; rfl)
theorem R_inverse_order {x0 : D} {Q : D → List D → Prop} (h : Wx noE (m_inverse_order [some x0, none, none, none]) (fin [false] Q)) : Cw noC (P_inverse_order [x0]) Q := by rw [P_inverse_order_eq]; exact run_w rfl h
theorem fn_inverse_order {C : Ct} (Z : FX C.X.K C.X.mg) : Fn C 1 (He.ga C.X.K "inverse_order") Z.fd_inverse_order ["order"] [false] P_inverse_order := ⟨ok_inverse_order Z, Z.F_inverse_order.kp, bd_inverse_order Z.F_inverse_order⟩
def m_is_place : M Fl :=
  (sSeq (sRet (eAnd (opS fIsi (aCons (oS 0) (aCons (oV (eC (.ty "int"))) aNil))) (eAnd (eNot (opS fIsi (aCons (oS 0) (aCons (oV (eC (.ty "bool"))) aNil)))) (eCh fLe fLt (oV (eC (.int 0))) (oS 0) (oS 1)))))
  sNil)
theorem b_is_place (Z : FX K mg) {lv : Nat} (hlv : 0 ≤ lv) {f : Addr} {cdv : Value} {A : Around} {outer : List Env} {s : Shared} {H : Hp} {E : XK} {vs : List V} (k : (ctOf P w K mg base ["thing", "many"] "is_place" (defScope s_is_place) f cdv A outer s H E [false, false] vs).Ok lv) : SSs (ctOf P w K mg base ["thing", "many"] "is_place" (defScope s_is_place) f cdv A outer s H E [false, false] vs) (defBody s_is_place) (m_is_place) :=
  (ss_cons (ss_ret (se_and (se_callB (x := "isinstance") sn_isi rfl Z.n_isinstance (by decide +kernel) (sa_cons (so_s 0) (sa_cons (so_v (se_ty (x := "int") rfl Z.n_int (by decide +kernel))) sa_nil))) (se_and (se_not (se_callB (x := "isinstance") sn_isi rfl Z.n_isinstance (by decide +kernel) (sa_cons (so_s 0) (sa_cons (so_v (se_ty (x := "bool") rfl Z.n_bool (by decide +kernel))) sa_nil)))) (se_one (se_ch (sc_le) (sc_lt) (so_v se_int) (so_s 0) (so_s 1))))))
  ss_nil)
theorem O_is_place : ∃ f : List D → Cr, f = runDef [false, false] 2 m_is_place := ⟨_, rfl⟩
noncomputable def P_is_place : List D → Cr := Classical.choose O_is_place
theorem P_is_place_eq : P_is_place = runDef [false, false] 2 m_is_place := Classical.choose_spec O_is_place
theorem ok_is_place (Z : FX K mg) : FnG P w K mg base (L2.CX P w) 1 (He.ga K "is_place") Z.fd_is_place ["thing", "many"] (spF K [false, false] P_is_place) := def_ok Z.F_is_place sc_is_place [false, false] P_is_place m_is_place rfl (fun _ _ _ _ _ _ _ _ k => b_is_place Z (by omega) k) (fun _ _ _ => by rw [P_is_place_eq]; rfl)
theorem R_is_place {x0 x1 : D} {Q : D → List D → Prop} (h : Wx noE (m_is_place [some x0, some x1]) (fin [false, false] Q)) : Cw noC (P_is_place [x0, x1]) Q := by rw [P_is_place_eq]; exact run_w rfl h
theorem fn_is_place {C : Ct} (Z : FX C.X.K C.X.mg) : Fn C 1 (He.ga C.X.K "is_place") Z.fd_is_place ["thing", "many"] [false, false] P_is_place := ⟨ok_is_place Z, Z.F_is_place.kp, bd_is_place Z.F_is_place⟩
noncomputable def m_is_order : M Fl :=
  (sSeq (sIf (tOr (tNot (tTr (oV (opS fIsi (aCons (oS 0) (aCons (oV (eC (.ty "list"))) aNil)))))) (tOr (tB (e2 fEq (oV (opS fLen (aCons (oS 0) aNil))) (oV (eC (.int 0))))) (tNot (tTr (oV (opS fAll (aCons (oV (eLc [1] (gN 1) (iSeq (oS 0)) tYesM (eCall [false, false] P_is_place (aCons (oS 1) (aCons (oV (opS fLen (aCons (oS 0) aNil))) aNil))))) aNil))))))) (sSeq (sRet (eC (.bl false)))
  sNil) sNil)
  (sSeq (sRet (e2 fEq (oV (opA gSorted (aCons (oS 0) aNil))) (oV (eLR (aCons (oV (opS fLen (aCons (oS 0) aNil))) aNil)))))
  sNil))
theorem b_is_order (Z : FX K mg) {lv : Nat} (hlv : 1 ≤ lv) {f : Addr} {cdv : Value} {A : Around} {outer : List Env} {s : Shared} {H : Hp} {E : XK} {vs : List V} (k : (ctOf P w K mg base ["thing", "one"] "is_order" (defScope s_is_order) f cdv A outer s H E [false] vs).Ok lv) : SSs (ctOf P w K mg base ["thing", "one"] "is_order" (defScope s_is_order) f cdv A outer s H E [false] vs) (defBody s_is_order) (m_is_order) :=
  (ss_cons (ss_if (st_w (sw_or (st_not (st_tr (so_v (se_callB (x := "isinstance") sn_isi rfl Z.n_isinstance (by decide +kernel) (sa_cons (so_s 0) (sa_cons (so_v (se_ty (x := "list") rfl Z.n_list (by decide +kernel))) sa_nil)))))) (sw_or (st_cmp (sc_eq k.units) two_fEq (so_v (se_callB (x := "len") sn_len rfl Z.n_len (by decide +kernel) (sa_cons (so_s 0) sa_nil))) (so_v se_int)) (sw_or1 (st_not (st_tr (so_v (se_callB (x := "all") (sn_all k.calm) rfl Z.n_all (by decide +kernel) (sa_cons (so_v (se_lc k [("one", 1)] (blkOk_by rfl)  (si_seq (so_s 0)) (fun _ _ _ _ _ => (sg_n k.blk 1)) (fun _ _ _ _ _ => sts_nil) (fun _ _ _ _ _ => (se_call k.blk (fn_is_place Z) Z.g_is_place (sa_cons (so_s 1) (sa_cons (so_v (se_callB (x := "len") sn_len rfl Z.n_len (by decide +kernel) (sa_cons (so_s 0) sa_nil))) sa_nil)) (hle := by omega))))) sa_nil))))))))) (ss_cons (ss_ret se_bl)
  ss_nil) ss_nil)
  (ss_cons (ss_ret (se_cmp (sc_eq k.units) two_fEq (so_v (se_callBA (x := "sorted") a_sorted rfl Z.n_sorted (by decide +kernel) (sa_cons (so_s 0) sa_nil))) (so_v (se_listR1 k rfl Z.n_list rfl Z.n_range (so_v (se_callB (x := "len") sn_len rfl Z.n_len (by decide +kernel) (sa_cons (so_s 0) sa_nil)))))))
  ss_nil))
theorem O_is_order : ∃ f : List D → Cr, f = runDef [false] 2 m_is_order := ⟨_, rfl⟩
noncomputable def P_is_order : List D → Cr := Classical.choose O_is_order
theorem P_is_order_eq : P_is_order = runDef [false] 2 m_is_order := Classical.choose_spec O_is_order
theorem ok_is_order (Z : FX K mg) : FnG P w K mg base (L2.CX P w) 2 (He.ga K "is_order") Z.fd_is_order ["thing"] (spF K [false] P_is_order) := def_ok Z.F_is_order sc_is_order [false] P_is_order m_is_order rfl (fun _ _ _ _ _ _ _ _ k => b_is_order Z (by omega) k) (fun _ _ _ => by rw [P_is_order_eq]; rfl)
theorem R_is_order {x0 : D} {Q : D → List D → Prop} (h : Wx noE (m_is_order [some x0, none]) (fin [false] Q)) : Cw noC (P_is_order [x0]) Q := by rw [P_is_order_eq]; exact run_w rfl h
theorem fn_is_order {C : Ct} (Z : FX C.X.K C.X.mg) : Fn C 2 (He.ga C.X.K "is_order") Z.fd_is_order ["thing"] [false] P_is_order := ⟨ok_is_order Z, Z.F_is_order.kp, bd_is_order Z.F_is_order⟩
def m_round_from : M Fl :=
  (sSeq (sSet 2 (eLst (aCons (oS 1) aNil)))
  (sSeq (sWhile (tB (e2 fNe (oV (eIx (oS 0) (oV (eIx (oS 2) (oV (eNeg (eC (.int 1)))))))) (oS 1))) (sSeq (sEx (eM1 2 fApp (eIx (oS 0) (oV (eIx (oS 2) (oV (eNeg (eC (.int 1)))))))))
  sNil) fuel)
  (sSeq (sRetV 2)
  sNil)))
theorem b_round_from (Z : FX K mg) {lv : Nat} (hlv : 0 ≤ lv) {f : Addr} {cdv : Value} {A : Around} {outer : List Env} {s : Shared} {H : Hp} {E : XK} {vs : List V} (k : (ctOf P w K mg base ["order", "begin", "found"] "round_from" (defScope s_round_from) f cdv A outer s H E [false, false] vs).Ok lv) : SSs (ctOf P w K mg base ["order", "begin", "found"] "round_from" (defScope s_round_from) f cdv A outer s H E [false, false] vs) (defBody s_round_from) (m_round_from) :=
  (ss_cons (ss_set k (i := 2) (se_lst (sa_cons (so_s 1) sa_nil)))
  (ss_cons (ss_while k fuel (st_cmp (sc_ne k.units) two_fNe (so_v (se_ix (so_s 0) (so_v (se_ix (so_s 2) (so_v (se_neg se_int)))))) (so_s 1)) (ss_cons (ss_ex (se_m1 (i := 2) m1_append PySem.F.slot_list_append PySem.F.type_list_append (se_ix (so_s 0) (so_v (se_ix (so_s 2) (so_v (se_neg se_int)))))))
  ss_nil))
  (ss_cons (ss_retV (i := 2))
  ss_nil)))
theorem O_round_from : ∃ f : List D → Cr, f = runDef [false, false] 3 m_round_from := ⟨_, rfl⟩
noncomputable def P_round_from : List D → Cr := Classical.choose O_round_from
theorem P_round_from_eq : P_round_from = runDef [false, false] 3 m_round_from := Classical.choose_spec O_round_from
theorem ok_round_from (Z : FX K mg) : FnG P w K mg base (L2.CX P w) 1 (He.ga K "round_from") Z.fd_round_from ["order", "begin"] (spF K [false, false] P_round_from) := def_ok Z.F_round_from sc_round_from [false, false] P_round_from m_round_from rfl (fun _ _ _ _ _ _ _ _ k => b_round_from Z (by omega) k) (fun _ _ _ => by rw [P_round_from_eq]; rfl)
theorem R_round_from {x0 x1 : D} {Q : D → List D → Prop} (h : Wx noE (m_round_from [some x0, some x1, none]) (fin [false, false] Q)) : Cw noC (P_round_from [x0, x1]) Q := by rw [P_round_from_eq]; exact run_w rfl h
theorem fn_round_from {C : Ct} (Z : FX C.X.K C.X.mg) : Fn C 1 (He.ga C.X.K "round_from") Z.fd_round_from ["order", "begin"] [false, false] P_round_from := ⟨ok_round_from Z, Z.F_round_from.kp, bd_round_from Z.F_round_from⟩
noncomputable def m_order_cycles : M Fl :=
  (sSeq (sSet 1 (eLc [2] (gN 2) (SV.iRng (aCons (oV (opS fLen (aCons (oS 0) aNil))) aNil)) tYesM (eCall [false, false] P_round_from (aCons (oS 0) (aCons (oS 2) aNil)))))
  (sSeq (sRet (eLcMv 1 3 (tAnd (tB (e2 fGt (oV (opS fLen (aCons (oS 3) aNil))) (oV (eC (.int 1))))) (tB (e2 fEq (oV (eIx (oS 3) (oV (eC (.int 0))))) (oV (opS fMinL (aCons (oS 3) aNil)))))) (eMv 3)))
  sNil))
theorem b_order_cycles (Z : FX K mg) {lv : Nat} (hlv : 1 ≤ lv) {f : Addr} {cdv : Value} {A : Around} {outer : List Env} {s : Shared} {H : Hp} {E : XK} {vs : List V} (k : (ctOf P w K mg base ["order", "rounds", "place", "one"] "order_cycles" (defScope s_order_cycles) f cdv A outer s H E [false] vs).Ok lv) : SSs (ctOf P w K mg base ["order", "rounds", "place", "one"] "order_cycles" (defScope s_order_cycles) f cdv A outer s H E [false] vs) (defBody s_order_cycles) (m_order_cycles) :=
  (ss_cons (ss_setLc k (j := 1) [("place", 2)] (blkOk_by rfl)  (si_range1 (hm := Z.n_range) (ha := (so_v (se_callB (x := "len") sn_len rfl Z.n_len (by decide +kernel) (sa_cons (so_s 0) sa_nil))))) (fun _ _ _ _ _ => (sg_n k.blk 2)) (fun _ _ _ _ _ => sts_nil) (fun _ _ _ _ _ => (se_call k.blk (fn_round_from Z) Z.g_round_from (sa_cons (so_s 0) (sa_cons (so_s 2) sa_nil)) (hle := by omega))) rfl)
  (ss_cons (ss_ret (se_lcMv k 1 3 [("one", 3)] (blkOk_by rfl) (fun _ _ _ _ _ => sgm_n k.blk 3) (fun _ _ _ _ _ => (sts_one (st_w (sw_and (st_cmp (sc_gt) two_fGt (so_v (se_callB (x := "len") sn_len rfl Z.n_len (by decide +kernel) (sa_cons (so_s 3) sa_nil))) (so_v se_int)) (sw_and1 (st_cmp (sc_eq k.blk.units) two_fEq (so_v (se_ix (so_s 3) (so_v se_int))) (so_v (se_callB (x := "min") (sn_minL k.blk.calm) rfl Z.n_min (by decide +kernel) (sa_cons (so_s 3) sa_nil))))))))) (fun _ _ _ _ _ => (se_mv 3))))
  ss_nil))
theorem O_order_cycles : ∃ f : List D → Cr, f = runDef [false] 4 m_order_cycles := ⟨_, rfl⟩
noncomputable def P_order_cycles : List D → Cr := Classical.choose O_order_cycles
theorem P_order_cycles_eq : P_order_cycles = runDef [false] 4 m_order_cycles := Classical.choose_spec O_order_cycles
theorem ok_order_cycles (Z : FX K mg) : FnG P w K mg base (L2.CX P w) 2 (He.ga K "order_cycles") Z.fd_order_cycles ["order"] (spF K [false] P_order_cycles) := def_ok Z.F_order_cycles sc_order_cycles [false] P_order_cycles m_order_cycles rfl (fun _ _ _ _ _ _ _ _ k => b_order_cycles Z (by omega) k) (fun _ _ _ => by rw [P_order_cycles_eq]; rfl)
theorem R_order_cycles {x0 : D} {Q : D → List D → Prop} (h : Wx noE (m_order_cycles [some x0, none, none, none]) (fin [false] Q)) : Cw noC (P_order_cycles [x0]) Q := by rw [P_order_cycles_eq]; exact run_w rfl h
theorem fn_order_cycles {C : Ct} (Z : FX C.X.K C.X.mg) : Fn C 2 (He.ga C.X.K "order_cycles") Z.fd_order_cycles ["order"] [false] P_order_cycles := ⟨ok_order_cycles Z, Z.F_order_cycles.kp, bd_order_cycles Z.F_order_cycles⟩
noncomputable def m__law_right : M Fl :=
  (sSeq (sSet 1 (eFr (eCall [true, false] P__law_shuffled (aCons (oS 0) (aCons (oV (eIx (oV (eLst (aCons (oV (eC (.int 1))) (aCons (oV (eC (.int 2))) (aCons (oV (e2 fAdd (oV (eC (.int 1))) (oV (eCall [true, false] P__law_take (aCons (oS 0) (aCons (oV (eC (.int 12))) aNil)))))) (aCons (oV (e2 fAdd (oV (eC (.int 1))) (oV (eCall [true, false] P__law_take (aCons (oS 0) (aCons (oV (eC (.int 60))) aNil)))))) aNil)))))) (oV (eCall [true, false] P__law_take (aCons (oS 0) (aCons (oV (eC (.int 4))) aNil)))))) aNil)))))
  (sSeq (sPar [6, 7] (aCons (oV (eFr (opA gList (aCons (oS 1) aNil)))) (aCons (oV (eLst (aCons (oS 1) (aCons (oV (opA gTuple (aCons (oS 1) aNil))) (aCons (oV (eC .non)) (aCons (oV (eC (.int 0))) (aCons (oV (eC (.str ""))) (aCons (oV (eTup aNil)) (aCons (oV (eLst aNil)) (aCons (oV (eLst (aCons (oV (eLst aNil)) aNil))) (aCons (oV (eLst (aCons (oV (eC (.int 0))) aNil))) (aCons (oV (eLst (aCons (oV (eC (.int 1))) aNil))) (aCons (oV (eLst (aCons (oV (eC (.bl true))) aNil))) (aCons (oV (eLst (aCons (oV (eC (.bl false))) aNil))) (aCons (oV (eLst (aCons (oV (eC (.int 0))) (aCons (oV (eC (.int 2))) aNil)))) (aCons (oV (eLst (aCons (oS 1) aNil))) aNil)))))))))))))))) aNil)))
  (sSeq (sFor (gN 2) (SV.iRng (aCons (oV (eC (.int 12))) aNil)) (sSeq (sSet 3 (eFr (eCall [true, false] P__law_bent (aCons (oS 0) (aCons (oS 1) aNil)))))
  (sSeq (sEx (eM1 7 fApp (eIf (tAnd (tB (e2 fEq (oV (eCall [true, false] P__law_take (aCons (oS 0) (aCons (oV (eC (.int 3))) aNil)))) (oV (eC (.int 0))))) (tTr (oV (opS fIsi (aCons (oS 3) (aCons (oV (eC (.ty "list"))) aNil)))))) (eCall [true, false] P__law_bent (aCons (oS 0) (aCons (oS 3) aNil))) (eN 3))))
  sNil)))
  (sSeq (sFor (gN 3) (iSeq (oV (eFz 7))) (sSeq (sPar [11, 4] (aCons (oV (opS fReprA (aCons (oS 3) aNil))) (aCons (oV (eFr (eCall [false] P__law_is_it (aCons (oS 3) aNil)))) aNil)))
  (sSeq (sIf (tOr (tNot (tTr (oV (eLn (eCall [false, false] P__law_same_ (aCons (oV (eLst (aCons (oV (eCall [false] P_is_order (aCons (oS 3) aNil))) (aCons (oV (eCall [false] P_is_order (aCons (oS 3) aNil))) aNil)))) (aCons (oV (eLst (aCons (oS 4) (aCons (oS 4) aNil)))) aNil))))))) (tB (e2 fNe (oV (opS fReprA (aCons (oS 3) aNil))) (oS 11)))) (sSeq (sRet (eC (.bl false)))
  sNil) sNil)
  sNil)))
  (sSeq (sSet 4 (eFr (eLc [12] (gN 12) (SV.iRng (aCons (oV (opS fLen (aCons (oS 1) aNil))) aNil)) tYesM (opS fIndex (aCons (oTy "list" (oS 1)) (aCons (oS 12) aNil))))))
  (sSeq (sFor (gN 5) (iSeq (oV (eTup (aCons (oS 1) (aCons (oV (opA gTuple (aCons (oS 1) aNil))) aNil))))) (sSeq (sSet 8 (eLst (aCons (oV (eCall [false] P_inverse_order (aCons (oS 5) aNil))) (aCons (oV (eCall [false] P_inverse_order (aCons (oS 5) aNil))) (aCons (oV (eCall [false] P_inverse_order (aCons (oS 4) aNil))) aNil)))))
  (sSeq (sIf (tNot (tTr (oV (eLn (eCall [false, false] P__law_same_ (aCons (oS 8) (aCons (oV (eLst (aCons (oS 4) (aCons (oS 4) (aCons (oS 1) aNil))))) aNil))))))) (sSeq (sRet (eC (.bl false)))
  sNil) sNil)
  (sSeq (sEx (eMp0 8 [0] fReverse))
  (sSeq (sEx (eMp1 8 [2] fApp (.int (-1))))
  (sSeq (sSet 9 (eCall [false] P_order_cycles (aCons (oS 5) aNil)))
  (sSeq (sIf (tNot (tTr (oV (eLn (eCall [false, false] P__law_same_ (aCons (oS 9) (aCons (oV (eCall [false] P__law_rounds (aCons (oS 1) aNil))) aNil))))))) (sSeq (sRet (eC (.bl false)))
  sNil) sNil)
  (sSeq (sClr 9 10)
  (sSeq (sEx (eM1 9 fApp (eC (.str "more"))))
  (sSeq (sIf (tNot (tTr (oV (eLn (eCall [false, false] P__law_same_ (aCons (oV (eLst (aCons (oV (eCall [false] P_inverse_order (aCons (oS 5) aNil))) (aCons (oV (eCall [false] P_order_cycles (aCons (oS 5) aNil))) aNil)))) (aCons (oV (eLst (aCons (oS 4) (aCons (oV (eCall [false] P__law_rounds (aCons (oS 1) aNil))) aNil)))) aNil))))))) (sSeq (sRet (eC (.bl false)))
  sNil) sNil)
  sNil))))))))))
  (sSeq (sRet (e2 fEq (oS 1) (oS 6)))
  sNil)))))))
theorem b__law_right (Z : FX K mg) {lv : Nat} (hlv : 41 ≤ lv) {f : Addr} {cdv : Value} {A : Around} {outer : List Env} {s : Shared} {H : Hp} {E : XK} {vs : List V} (k : (ctOf P w K mg base ["_law_box_here", "_law_row", "_law_turn", "_law_thing", "_law_due", "_law_given", "_law_stays", "_law_things", "_law_told", "_law_rounds_here", "_law_one", "_law_ahead", "_law_k"] "_law_right" (defScope s__law_right) f cdv A outer s H E [true] vs).Ok lv) : SSs (ctOf P w K mg base ["_law_box_here", "_law_row", "_law_turn", "_law_thing", "_law_due", "_law_given", "_law_stays", "_law_things", "_law_told", "_law_rounds_here", "_law_one", "_law_ahead", "_law_k"] "_law_right" (defScope s__law_right) f cdv A outer s H E [true] vs) (defBody s__law_right) (m__law_right) :=
  (ss_cons (ss_fr (ss_set k (i := 1) (se_call k (fn__law_shuffled Z) Z.g__law_shuffled (sa_cons (so_s 0) (sa_cons (so_v (se_ix (so_v (se_lst (sa_cons (so_v se_int) (sa_cons (so_v se_int) (sa_cons (so_v (se_op sc_add two_add (so_v se_int) (so_v (se_call k (fn__law_take Z) Z.g__law_take (sa_cons (so_s 0) (sa_cons (so_v se_int) sa_nil)) (hle := by omega))))) (sa_cons (so_v (se_op sc_add two_add (so_v se_int) (so_v (se_call k (fn__law_take Z) Z.g__law_take (sa_cons (so_s 0) (sa_cons (so_v se_int) sa_nil)) (hle := by omega))))) sa_nil)))))) (so_v (se_call k (fn__law_take Z) Z.g__law_take (sa_cons (so_s 0) (sa_cons (so_v se_int) sa_nil)) (hle := by omega))))) sa_nil)) (hle := by omega))))
  (ss_cons (ss_par k (i := 6) (j := 7) (sa_cons (so_v (se_fr (se_callTyA (x := "list") a_list rfl Z.n_list (by decide +kernel) (sa_cons (so_s 1) sa_nil)))) (sa_cons (so_v (se_lst (sa_cons (so_s 1) (sa_cons (so_v (se_callTyA (x := "tuple") a_tuple rfl Z.n_tuple (by decide +kernel) (sa_cons (so_s 1) sa_nil))) (sa_cons (so_v se_non) (sa_cons (so_v se_int) (sa_cons (so_v se_str) (sa_cons (so_v (se_tup sa_nil)) (sa_cons (so_v (se_lst sa_nil)) (sa_cons (so_v (se_lst (sa_cons (so_v (se_lst sa_nil)) sa_nil))) (sa_cons (so_v (se_lst (sa_cons (so_v se_int) sa_nil))) (sa_cons (so_v (se_lst (sa_cons (so_v se_int) sa_nil))) (sa_cons (so_v (se_lst (sa_cons (so_v se_bl) sa_nil))) (sa_cons (so_v (se_lst (sa_cons (so_v se_bl) sa_nil))) (sa_cons (so_v (se_lst (sa_cons (so_v se_int) (sa_cons (so_v se_int) sa_nil)))) (sa_cons (so_v (se_lst (sa_cons (so_s 1) sa_nil))) sa_nil)))))))))))))))) sa_nil)))
  (ss_cons (ss_for k (si_range1 (hm := Z.n_range) (ha := (so_v se_int))) (sg_n k 2) (ss_cons (ss_fr (ss_set k (i := 3) (se_call k (fn__law_bent Z) Z.g__law_bent (sa_cons (so_s 0) (sa_cons (so_s 1) sa_nil)) (hle := by omega))))
  (ss_cons (ss_ex (se_m1 (i := 7) m1_append PySem.F.slot_list_append PySem.F.type_list_append (se_if (st_w (sw_and (st_cmp (sc_eq k.units) two_fEq (so_v (se_call k (fn__law_take Z) Z.g__law_take (sa_cons (so_s 0) (sa_cons (so_v se_int) sa_nil)) (hle := by omega))) (so_v se_int)) (sw_and1 (st_tr (so_v (se_callB (x := "isinstance") sn_isi rfl Z.n_isinstance (by decide +kernel) (sa_cons (so_s 3) (sa_cons (so_v (se_ty (x := "list") rfl Z.n_list (by decide +kernel))) sa_nil)))))))) (se_call k (fn__law_bent Z) Z.g__law_bent (sa_cons (so_s 0) (sa_cons (so_s 3) sa_nil)) (hle := by omega)) (se_n 3))))
  ss_nil)))
  (ss_cons (ss_for k (si_seq (so_v (se_fz 7))) (sg_n k 3) (ss_cons (ss_par k (i := 11) (j := 4) (sa_cons (so_v (se_callB (x := "repr") (sn_reprA k.room.gd k.units) rfl Z.n_repr (by decide +kernel) (sa_cons (so_s 3) sa_nil))) (sa_cons (so_v (se_fr (se_call k (fn__law_is_it Z) Z.g__law_is_it (sa_cons (so_s 3) sa_nil) (hle := by omega)))) sa_nil)))
  (ss_cons (ss_if (st_w (sw_or (st_not (st_tr (so_v (se_ln (se_call k (fn__law_same Z) Z.g__law_same (sa_cons (so_v (se_lst (sa_cons (so_v (se_call k (fn_is_order Z) Z.g_is_order (sa_cons (so_s 3) sa_nil) (hle := by omega))) (sa_cons (so_v (se_call k (fn_is_order Z) Z.g_is_order (sa_cons (so_s 3) sa_nil) (hle := by omega))) sa_nil)))) (sa_cons (so_v (se_lst (sa_cons (so_s 4) (sa_cons (so_s 4) sa_nil)))) sa_nil)) (hle := by omega)))))) (sw_or1 (st_cmp (sc_ne k.units) two_fNe (so_v (se_callB (x := "repr") (sn_reprA k.room.gd k.units) rfl Z.n_repr (by decide +kernel) (sa_cons (so_s 3) sa_nil))) (so_s 11))))) (ss_cons (ss_ret se_bl)
  ss_nil) ss_nil)
  ss_nil)))
  (ss_cons (ss_fr (ss_setLc k (j := 4) [("_law_k", 12)] (blkOk_by rfl)  (si_range1 (hm := Z.n_range) (ha := (so_v (se_callB (x := "len") sn_len rfl Z.n_len (by decide +kernel) (sa_cons (so_s 1) sa_nil))))) (fun _ _ _ _ _ => (sg_n k.blk 12)) (fun _ _ _ _ _ => sts_nil) (fun _ _ _ _ _ => (se_mS sm_index PySem.F.plainAttrs_list PySem.F.slot_list_index PySem.F.type_list_index (so_s 1) (sa_cons (so_s 12) sa_nil))) rfl))
  (ss_cons (ss_for k (si_seq (so_v (se_tup (sa_cons (so_s 1) (sa_cons (so_v (se_callTyA (x := "tuple") a_tuple rfl Z.n_tuple (by decide +kernel) (sa_cons (so_s 1) sa_nil))) sa_nil))))) (sg_n k 5) (ss_cons (ss_set k (i := 8) (se_lst (sa_cons (so_v (se_call k (fn_inverse_order Z) Z.g_inverse_order (sa_cons (so_s 5) sa_nil) (hle := by omega))) (sa_cons (so_v (se_call k (fn_inverse_order Z) Z.g_inverse_order (sa_cons (so_s 5) sa_nil) (hle := by omega))) (sa_cons (so_v (se_call k (fn_inverse_order Z) Z.g_inverse_order (sa_cons (so_s 4) sa_nil) (hle := by omega))) sa_nil)))))
  (ss_cons (ss_if (st_not (st_tr (so_v (se_ln (se_call k (fn__law_same Z) Z.g__law_same (sa_cons (so_s 8) (sa_cons (so_v (se_lst (sa_cons (so_s 4) (sa_cons (so_s 4) (sa_cons (so_s 1) sa_nil))))) sa_nil)) (hle := by omega)))))) (ss_cons (ss_ret se_bl)
  ss_nil) ss_nil)
  (ss_cons (ss_ex (se_mp0 (i := 8) (fun H ω => mp0_reverse H ω _ _) PySem.F.slot_list_reverse PySem.F.type_list_reverse (pth_ix (pth_n (i := 8)))))
  (ss_cons (ss_ex (se_mp1 (i := 8) mp1_append PySem.F.slot_list_append PySem.F.type_list_append (pth_ix (pth_n (i := 8))) kc_neg))
  (ss_cons (ss_set k (i := 9) (se_call k (fn_order_cycles Z) Z.g_order_cycles (sa_cons (so_s 5) sa_nil) (hle := by omega)))
  (ss_cons (ss_if (st_not (st_tr (so_v (se_ln (se_call k (fn__law_same Z) Z.g__law_same (sa_cons (so_s 9) (sa_cons (so_v (se_call k (fn__law_rounds Z) Z.g__law_rounds (sa_cons (so_s 1) sa_nil) (hle := by omega))) sa_nil)) (hle := by omega)))))) (ss_cons (ss_ret se_bl)
  ss_nil) ss_nil)
  (ss_cons (ss_clr k (i := 9) (v := 10))
  (ss_cons (ss_ex (se_m1 (i := 9) m1_append PySem.F.slot_list_append PySem.F.type_list_append se_str))
  (ss_cons (ss_if (st_not (st_tr (so_v (se_ln (se_call k (fn__law_same Z) Z.g__law_same (sa_cons (so_v (se_lst (sa_cons (so_v (se_call k (fn_inverse_order Z) Z.g_inverse_order (sa_cons (so_s 5) sa_nil) (hle := by omega))) (sa_cons (so_v (se_call k (fn_order_cycles Z) Z.g_order_cycles (sa_cons (so_s 5) sa_nil) (hle := by omega))) sa_nil)))) (sa_cons (so_v (se_lst (sa_cons (so_s 4) (sa_cons (so_v (se_call k (fn__law_rounds Z) Z.g__law_rounds (sa_cons (so_s 1) sa_nil) (hle := by omega))) sa_nil)))) sa_nil)) (hle := by omega)))))) (ss_cons (ss_ret se_bl)
  ss_nil) ss_nil)
  ss_nil))))))))))
  (ss_cons (ss_ret (se_cmp (sc_eq k.units) two_fEq (so_s 1) (so_s 6)))
  ss_nil)))))))
theorem O__law_right : ∃ f : List D → Cr, f = runDef [true] 13 m__law_right := ⟨_, rfl⟩
noncomputable def P__law_right : List D → Cr := Classical.choose O__law_right
theorem P__law_right_eq : P__law_right = runDef [true] 13 m__law_right := Classical.choose_spec O__law_right
theorem ok__law_right (Z : FX K mg) : FnG P w K mg base (L2.CX P w) 42 (He.ga K "_law_right") Z.fd__law_right ["_law_box_here"] (spF K [true] P__law_right) := def_ok Z.F__law_right sc__law_right [true] P__law_right m__law_right rfl (fun _ _ _ _ _ _ _ _ k => b__law_right Z (by omega) k) (fun _ _ _ => by rw [P__law_right_eq]; rfl)
theorem R__law_right {x0 : D} {Q : D → List D → Prop} (h : Wx noE (m__law_right [some x0, none, none, none, none, none, none, none, none, none, none, none, none]) (fin [true] Q)) : Cw noC (P__law_right [x0]) Q := by rw [P__law_right_eq]; exact run_w rfl h
theorem fn__law_right {C : Ct} (Z : FX C.X.K C.X.mg) : Fn C 42 (He.ga C.X.K "_law_right") Z.fd__law_right ["_law_box_here"] [true] P__law_right := ⟨ok__law_right Z, Z.F__law_right.kp, bd__law_right Z.F__law_right⟩
noncomputable def m_law : M Fl :=
  (sSeq (sSet 1 (eFr (eCall [false, false] P__law_folded (aCons (oS 0) (aCons (oV (eC (.int 4))) aNil)))))
  (sSeq (sFor (gN 2) (SV.iRng (aCons (oV (opS fLen (aCons (oS 1) aNil))) aNil)) (sSeq (sSet 3 (eCall [false, false] P__law_box (aCons (oS 1) (aCons (oS 2) aNil))))
  (sSeq (sIf (tNot (tTr (oV (opS fAll (aCons (oV (eLc [4] (gN 4) (SV.iRng (aCons (oV (eC (.int 3))) aNil)) tYesM (eCall [true] P__law_right (aCons (oS 3) aNil)))) aNil))))) (sSeq (sRet (eC (.bl false)))
  sNil) sNil)
  sNil)))
  (sSeq (sRet (eC (.bl true)))
  sNil)))
theorem b_law (Z : FX K mg) {lv : Nat} (hlv : 42 ≤ lv) {f : Addr} {cdv : Value} {A : Around} {outer : List Env} {s : Shared} {H : Hp} {E : XK} {vs : List V} (k : (ctOf P w K mg base ["_law_script", "_law_cells", "_law_k", "_law_box_here", "_law_turn"] "law" (defScope s_law) f cdv A outer s H E [false] vs).Ok lv) : SSs (ctOf P w K mg base ["_law_script", "_law_cells", "_law_k", "_law_box_here", "_law_turn"] "law" (defScope s_law) f cdv A outer s H E [false] vs) (defBody s_law) (m_law) :=
  (ss_cons (ss_fr (ss_set k (i := 1) (se_call k (fn__law_folded Z) Z.g__law_folded (sa_cons (so_s 0) (sa_cons (so_v se_int) sa_nil)) (hle := by omega))))
  (ss_cons (ss_for k (si_range1 (hm := Z.n_range) (ha := (so_v (se_callB (x := "len") sn_len rfl Z.n_len (by decide +kernel) (sa_cons (so_s 1) sa_nil))))) (sg_n k 2) (ss_cons (ss_set k (i := 3) (se_call k (fn__law_box Z) Z.g__law_box (sa_cons (so_s 1) (sa_cons (so_s 2) sa_nil)) (hle := by omega)))
  (ss_cons (ss_if (st_not (st_tr (so_v (se_callB (x := "all") (sn_all k.calm) rfl Z.n_all (by decide +kernel) (sa_cons (so_v (se_lc k [("_law_turn", 4)] (blkOk_by rfl)  (si_range1 (hm := Z.n_range) (ha := (so_v se_int))) (fun _ _ _ _ _ => (sg_n k.blk 4)) (fun _ _ _ _ _ => sts_nil) (fun _ _ _ _ _ => (se_call k.blk (fn__law_right Z) Z.g__law_right (sa_cons (so_s 3) sa_nil) (hle := by omega))))) sa_nil))))) (ss_cons (ss_ret se_bl)
  ss_nil) ss_nil)
  ss_nil)))
  (ss_cons (ss_ret se_bl)
  ss_nil)))
theorem O_law : ∃ f : List D → Cr, f = runDef [false] 5 m_law := ⟨_, rfl⟩
noncomputable def P_law : List D → Cr := Classical.choose O_law
theorem P_law_eq : P_law = runDef [false] 5 m_law := Classical.choose_spec O_law
theorem ok_law (Z : FX K mg) : FnG P w K mg base (L2.CX P w) 43 (He.ga K "law") Z.fd_law ["_law_script"] (spF K [false] P_law) := def_ok Z.F_law sc_law [false] P_law m_law rfl (fun _ _ _ _ _ _ _ _ k => b_law Z (by omega) k) (fun _ _ _ => by rw [P_law_eq]; rfl)
theorem R_law {x0 : D} {Q : D → List D → Prop} (h : Wx noE (m_law [some x0, none, none, none, none]) (fin [false] Q)) : Cw noC (P_law [x0]) Q := by rw [P_law_eq]; exact run_w rfl h
end
def d__law_box : He.DefD := ⟨("_law_box", none), "_law_box", "_law_box", defArgs s__law_box, defBody s__law_box, defScope s__law_box, [], []⟩
def d__law_folded : He.DefD := ⟨("_law_folded", none), "_law_folded", "_law_folded", defArgs s__law_folded, defBody s__law_folded, defScope s__law_folded, [], []⟩
def d__law_take : He.DefD := ⟨("_law_take", none), "_law_take", "_law_take", defArgs s__law_take, defBody s__law_take, defScope s__law_take, [], []⟩
def d__law_pick : He.DefD := ⟨("_law_pick", none), "_law_pick", "_law_pick", defArgs s__law_pick, defBody s__law_pick, defScope s__law_pick, [], []⟩
def d__law_bent : He.DefD := ⟨("_law_bent", none), "_law_bent", "_law_bent", defArgs s__law_bent, defBody s__law_bent, defScope s__law_bent, [], []⟩
def d__law_is_it : He.DefD := ⟨("_law_is_it", none), "_law_is_it", "_law_is_it", defArgs s__law_is_it, defBody s__law_is_it, defScope s__law_is_it, [], []⟩
def d__law_rounds : He.DefD := ⟨("_law_rounds", none), "_law_rounds", "_law_rounds", defArgs s__law_rounds, defBody s__law_rounds, defScope s__law_rounds, [], []⟩
def d__law_same : He.DefD := ⟨("_law_same", none), "_law_same", "_law_same", defArgs s__law_same, defBody s__law_same, defScope s__law_same, [], []⟩
def d__law_shuffled : He.DefD := ⟨("_law_shuffled", none), "_law_shuffled", "_law_shuffled", defArgs s__law_shuffled, defBody s__law_shuffled, defScope s__law_shuffled, [], []⟩
def d_inverse_order : He.DefD := ⟨("inverse_order", none), "inverse_order", "inverse_order", defArgs s_inverse_order, defBody s_inverse_order, defScope s_inverse_order, [], []⟩
def d_is_place : He.DefD := ⟨("is_place", none), "is_place", "is_place", defArgs s_is_place, defBody s_is_place, defScope s_is_place, [], []⟩
def d_is_order : He.DefD := ⟨("is_order", none), "is_order", "is_order", defArgs s_is_order, defBody s_is_order, defScope s_is_order, [], []⟩
def d_round_from : He.DefD := ⟨("round_from", none), "round_from", "round_from", defArgs s_round_from, defBody s_round_from, defScope s_round_from, [], []⟩
def d_order_cycles : He.DefD := ⟨("order_cycles", none), "order_cycles", "order_cycles", defArgs s_order_cycles, defBody s_order_cycles, defScope s_order_cycles, [], []⟩
def d__law_right : He.DefD := ⟨("_law_right", none), "_law_right", "_law_right", defArgs s__law_right, defBody s__law_right, defScope s__law_right, [], []⟩
def d_law : He.DefD := ⟨("law", none), "law", "law", defArgs s_law, defBody s_law, defScope s_law, [], []⟩
def fn : List He.DefD := [d__law_box, d__law_folded, d__law_take, d__law_pick, d__law_bent, d__law_is_it, d__law_rounds, d__law_same, d__law_shuffled, d_inverse_order, d_is_place, d_is_order, d_round_from, d_order_cycles, d__law_right, d_law]
def fa : List He.Fa := [.glo "_law_box", .glo "_law_folded", .glo "_law_take", .glo "_law_pick", .glo "_law_bent", .glo "_law_is_it", .glo "_law_rounds", .glo "_law_same", .glo "_law_shuffled", .glo "inverse_order", .glo "is_place", .glo "is_order", .glo "round_from", .glo "order_cycles", .glo "_law_right", .glo "law", .free "abs", .free "all", .free "bool", .free "enumerate", .free "int", .free "isinstance", .free "len", .free "list", .free "min", .free "range", .free "repr", .free "sorted", .free "str", .free "tuple", .free "zip"]
def xb : List (PySem.W.Frag → Bool) := []
abbrev R : PySem.W.OpenRow := PySem.W.OpenLaw.row PySem.Challenge.rw_turnsums_k48_what_orders_are
abbrev hk : PySem.W.Hook := hookX 4 xb fa fn
def ob (s : PySem.W.SharedT) : AlX := obsXG 4 xb fa fn (HandSHeadRun.getT s)
theorem ob_eq (s : PySem.W.SharedT) : ob s = hk.obs s.abs := obsXG_eq (HandSHeadRun.getT_eq s)
def loose : List Str := ["is_place", "is_order", "inverse_order", "round_from", "order_cycles", "_law_box", "_law_take", "_law_pick", "_law_folded", "_law_same", "_law_shuffled", "_law_is_it", "_law_bent", "_law_rounds", "_law_right"]
theorem run (w : World) : HandSHeadRun.RunEq R (PySem.W.view R.prog [17]) hk ob 4000 loose w := by
  intro os
  kernel_rfl
theorem facts {P : Program} {w : World} {K : PySem.W.Frag} {h : Heap} {mg : Str → Option Value} {f : Addr} (X : K.In h) (G : h.Ns mainGlobals mg) (hfa : mg ("law" : Str) = some (.ref f)) (c0 : SaysX xb fa fn K) :
    ∃ fd : FuncData, (∀ (s : Shared) (v : Value), BindsTo s fd ⟨[v], []⟩ [("_law_script", v)]) ∧ ∀ base : Heap, K.In base → base.Ns mainGlobals mg → FnG P w K mg base (L2.CX P w) 43 f fd ["_law_script"] (spF K [false] P_law) := by
  have c := c0.d
  obtain ⟨fd__law_box, F__law_box⟩ := c.def_ 0 (d := d__law_box) rfl
  obtain ⟨fd__law_folded, F__law_folded⟩ := c.def_ 1 (d := d__law_folded) rfl
  obtain ⟨fd__law_take, F__law_take⟩ := c.def_ 2 (d := d__law_take) rfl
  obtain ⟨fd__law_pick, F__law_pick⟩ := c.def_ 3 (d := d__law_pick) rfl
  obtain ⟨fd__law_bent, F__law_bent⟩ := c.def_ 4 (d := d__law_bent) rfl
  obtain ⟨fd__law_is_it, F__law_is_it⟩ := c.def_ 5 (d := d__law_is_it) rfl
  obtain ⟨fd__law_rounds, F__law_rounds⟩ := c.def_ 6 (d := d__law_rounds) rfl
  obtain ⟨fd__law_same, F__law_same⟩ := c.def_ 7 (d := d__law_same) rfl
  obtain ⟨fd__law_shuffled, F__law_shuffled⟩ := c.def_ 8 (d := d__law_shuffled) rfl
  obtain ⟨fd_inverse_order, F_inverse_order⟩ := c.def_ 9 (d := d_inverse_order) rfl
  obtain ⟨fd_is_place, F_is_place⟩ := c.def_ 10 (d := d_is_place) rfl
  obtain ⟨fd_is_order, F_is_order⟩ := c.def_ 11 (d := d_is_order) rfl
  obtain ⟨fd_round_from, F_round_from⟩ := c.def_ 12 (d := d_round_from) rfl
  obtain ⟨fd_order_cycles, F_order_cycles⟩ := c.def_ 13 (d := d_order_cycles) rfl
  obtain ⟨fd__law_right, F__law_right⟩ := c.def_ 14 (d := d__law_right) rfl
  obtain ⟨fd_law, F_law⟩ := c.def_ 15 (d := d_law) rfl
  have e := hfa.symm.trans (He.glo_ok X G (c.fact 15 (f := .glo "law") rfl))
  cases e
  let Z : FX K mg := { fd__law_box := fd__law_box, F__law_box := F__law_box, fd__law_folded := fd__law_folded, F__law_folded := F__law_folded, fd__law_take := fd__law_take, F__law_take := F__law_take, fd__law_pick := fd__law_pick, F__law_pick := F__law_pick, fd__law_bent := fd__law_bent, F__law_bent := F__law_bent, fd__law_is_it := fd__law_is_it, F__law_is_it := F__law_is_it, fd__law_rounds := fd__law_rounds, F__law_rounds := F__law_rounds, fd__law_same := fd__law_same, F__law_same := F__law_same, fd__law_shuffled := fd__law_shuffled, F__law_shuffled := F__law_shuffled, fd_inverse_order := fd_inverse_order, F_inverse_order := F_inverse_order, fd_is_place := fd_is_place, F_is_place := F_is_place, fd_is_order := fd_is_order, F_is_order := F_is_order, fd_round_from := fd_round_from, F_round_from := F_round_from, fd_order_cycles := fd_order_cycles, F_order_cycles := F_order_cycles, fd__law_right := fd__law_right, F__law_right := F__law_right, fd_law := fd_law, F_law := F_law, g__law_box := He.glo_ok X G (c.fact 0 (f := .glo "_law_box") rfl), g__law_folded := He.glo_ok X G (c.fact 1 (f := .glo "_law_folded") rfl), g__law_take := He.glo_ok X G (c.fact 2 (f := .glo "_law_take") rfl), g__law_pick := He.glo_ok X G (c.fact 3 (f := .glo "_law_pick") rfl), g__law_bent := He.glo_ok X G (c.fact 4 (f := .glo "_law_bent") rfl), g__law_is_it := He.glo_ok X G (c.fact 5 (f := .glo "_law_is_it") rfl), g__law_rounds := He.glo_ok X G (c.fact 6 (f := .glo "_law_rounds") rfl), g__law_same := He.glo_ok X G (c.fact 7 (f := .glo "_law_same") rfl), g__law_shuffled := He.glo_ok X G (c.fact 8 (f := .glo "_law_shuffled") rfl), g_inverse_order := He.glo_ok X G (c.fact 9 (f := .glo "inverse_order") rfl), g_is_place := He.glo_ok X G (c.fact 10 (f := .glo "is_place") rfl), g_is_order := He.glo_ok X G (c.fact 11 (f := .glo "is_order") rfl), g_round_from := He.glo_ok X G (c.fact 12 (f := .glo "round_from") rfl), g_order_cycles := He.glo_ok X G (c.fact 13 (f := .glo "order_cycles") rfl), g__law_right := He.glo_ok X G (c.fact 14 (f := .glo "_law_right") rfl), g_law := He.glo_ok X G (c.fact 15 (f := .glo "law") rfl), n_abs := He.free_ok X G (c.fact 16 (f := .free "abs") rfl), n_all := He.free_ok X G (c.fact 17 (f := .free "all") rfl), n_bool := He.free_ok X G (c.fact 18 (f := .free "bool") rfl), n_enumerate := He.free_ok X G (c.fact 19 (f := .free "enumerate") rfl), n_int := He.free_ok X G (c.fact 20 (f := .free "int") rfl), n_isinstance := He.free_ok X G (c.fact 21 (f := .free "isinstance") rfl), n_len := He.free_ok X G (c.fact 22 (f := .free "len") rfl), n_list := He.free_ok X G (c.fact 23 (f := .free "list") rfl), n_min := He.free_ok X G (c.fact 24 (f := .free "min") rfl), n_range := He.free_ok X G (c.fact 25 (f := .free "range") rfl), n_repr := He.free_ok X G (c.fact 26 (f := .free "repr") rfl), n_sorted := He.free_ok X G (c.fact 27 (f := .free "sorted") rfl), n_str := He.free_ok X G (c.fact 28 (f := .free "str") rfl), n_tuple := He.free_ok X G (c.fact 29 (f := .free "tuple") rfl), n_zip := He.free_ok X G (c.fact 30 (f := .free "zip") rfl) }
  have b := FunD.bindsA (ps := ["_law_script"]) F_law fun _ _ _ _ _ _ us hl => match us, hl with | [_], _ => rfl
  exact ⟨fd_law, fun s v => b s [v] rfl, fun base _ _ => ok_law Z⟩
end LW

namespace LW
open PySem SV
local macro_rules
  | `(tactic| simp!) => `(tactic| simp (disch := (first | with_reducible assumption | omega | (apply mul_ok1; omega) | (apply mul_ok2; omega) | (simp only [frzdL_append, frzdL_map_int, frzdL_irange, zd_non, zd_bl, zd_int, zd_str, zd_fn, zd_ty, zd_tup, zd_lst, zd_ro, zd_nil, zd_cons, List.length_append, List.length_map, List.length_cons, List.length_nil, irange_len, repD_len, Bool.and_eq_true, Bool.not_false, true_and, and_true, and_self, *]; done) | (simp only [frzdL_append, frzdL_map_int, frzdL_irange, zd_non, zd_bl, zd_int, zd_str, zd_fn, zd_ty, zd_tup, zd_lst, zd_ro, zd_nil, zd_cons, List.length_append, List.length_map, List.length_cons, List.length_nil, irange_len, repD_len, Bool.and_eq_true, Bool.not_false, true_and, and_true, and_self, *]; omega) | decide)) only [q_oR, q_sNil, q_sSeq, q_kSeq1, q_kSeq2, q_kSeq3, q_kSeq4, q_sSet, q_kSet, q_sRet, q_kRet, q_sRetV, q_kRv, q_sRetN, q_sEx, q_kEx, q_sBrk, q_sCnt, q_sIf, q_eIf, q_kIf, q_sAug, q_kAug0, q_kAug, q_augR, q_setR, q_sSub, q_kSub, q_kSub1, q_kSub2, q_kSub3, q_ixS, q_setIx, q_setIx1, q_sPar, q_kPar, q_parR, q_sUnp, q_kUnp, q_sFor, q_tB, q_kB, q_tTr, q_kTr, q_trR, q_tNot, q_kTn, q_tAnd, q_kTa, q_tOr, q_kTo, q_tYes, q_eC, q_eN, q_kN, q_eMv, q_kMv, q_eFz, q_kFz, q_oV, q_kOv, q_oS, q_kOs, q_aNil, q_aCons, q_kC1, q_kC2, q_opS, q_kOp, q_e2, q_opA, q_kOpA, q_e2A, q_eIx, q_kIx, q_ixO, q_ixR, q_eTup, q_kTup, q_tupR, q_eLst, q_kLst, q_lstR, q_eAnd, q_kAnd, q_eOr, q_kOr, q_eNot, q_kNot, q_eNeg, q_kNeg, q_eM0, q_kM0, q_m0R, q_eM1, q_kM1a, q_kM1, q_kM1b, q_m1R, q_eLc, q_kLc, q_kLcE, q_iRng, q_kRng, q_rng1, q_rng2, q_iRng3, q_kRng3, q_rng3, q_ysR, q_iSeq, q_kSeqI, q_seqR, q_iZip, q_kZip, q_zipR, q_enuO, q_iEnum, q_kEnu, q_enuR, q_eCall, q_kCall, q_callR, q_argsOf1, q_argR, q_getL1, q_consR, q_keepLs, q_keepLv, q_keepR, q_tops1, q_topR, q_brw1, q_brwR, q_callEnd, q_callEndX, q_gTup, q_gCons, q_gCk, r_setAll0, r_setAll1, r_getOv, r_getOs, r_getL0, r_keepL0, r_tops0, r_okTv, r_okTs, r_okOv, r_okOs, r_argsOf0, r_refs0, r_refs1, r_refs2, r_refs3, r_brw0, r_brw2, r_brw3, r_putB0, r_putB1, r_putB2, r_putB3, r_putBx, r_endOk0, r_endOk1, r_gN, r_gNil, r_wipe0, r_wipe1, z_non, z_bl, z_int, z_str, z_fn, z_ty, z_tup, z_lst, z_ro, z_nil, z_cons, zd_non, zd_bl, zd_int, zd_str, zd_fn, zd_ty, zd_tup, zd_lst, zd_ro, zd_nil, zd_cons, nz_non, nz_bl, nz_int, nz_str, nz_tup, nz_lst, nz_nil, nz_cons, tf_lst, tf_tup, tf_ro, tf_int, tf_str, tf_bl, it_lst, it_tup, it_ro, lo_lst, lo_ro, sd_lst, sd_ro, sd_tup, f_add, f_sub, f_addI, f_mul, f_div, f_mod, f_pow, f_shl, f_lt, f_le, f_gt, f_ge, g_addI, g_addL, g_addT, g_mulI, g_mulL, f_abs, f_max, f_min, f_intI, f_intB, f_lenL, f_lenT, f_lenR, f_isi, f_isi2, ix_lstI, ix_tupI, ix_roI, f_isBB, f_notBB, f_app, tr_bl, tr_int, b_nil, b_true, b_false, eq_int, ne_int, eq_bl, ne_bl, f_all, f_any, f_sum, zip_l, zip_r, zip_t, ty_non, ty_bl, ty_int, ty_str, ty_tup, ty_lst, ty_ro, is_nn, is_bn, is_in, is_sn, is_tn, is_ln, Wx_ok, Wx_exc, q_bind, kW_at, g_ok, o_ok, frz_if, flow_nx, flow_ct, flow_bk, flow_rt, fin_rt', fin_nx', endR_at, Wg_some, Wg_gN, List.getElem?_cons_zero, List.getElem?_cons_succ, List.set_cons_zero, List.set_cons_succ, Option.join_some, Option.join_none, Option.map_some, Option.map_none, Option.bind_some, Option.bind_none, List.length_cons, List.length_nil, Nat.zero_add, decide_true, decide_false, decide_eq_true_eq, Bool.not_true, Bool.not_false, Bool.not_not, Bool.true_and, Bool.and_true, Bool.false_and, Bool.and_false, Bool.or_true, Bool.true_or, Bool.or_false, Bool.false_or, Bool.not_eq_true', decide_eq_false_iff_not, Bool.and_eq_true, Bool.or_eq_true, Bool.false_eq_true, if_true, if_false, ite_true, ite_false, reduceIte, true_and, and_true, and_self, not_true_eq_false, not_false_eq_true, or_true, true_or, or_false, false_or, false_and, and_false, apart0, apart1, apart2, List.isEmpty_nil, List.isEmpty_cons, atI_0, atI_1, atI_2, atI_m1, Int.toNat_natCast, Int.reduceNeg, frzdL_map_int, frzL_map_int, nofz_ints, irange_len, ne_eq, reduceCtorEq, implies_true, true_imp_iff, false_imp_iff, eq_self, q_kFr, q_eFr, eq_intsL, ne_intsL, eq_intsT, q_eSs, q_kSs, q_kSsE, q_ssR, q_eSset, q_kSset, q_setO1, q_sorted, q_kIn, q_lIn, q_kLc2E, q_kLc2, q_eLc2, q_getPT, q_lstPT, q_setPT, q_setPkT, q_sl00, q_sl10, q_sl01, q_sl11, q_slL, q_slR, q_slT, q_slS, q_oI, q_kIv, q_kIs, q_kIs1, q_sForMv, q_kForMv, q_oTy, q_kTy, q_oTrL, q_oTrR, q_oTrS, q_count, q_eCh, q_kCh, q_chL, q_chR, q_kCh1, q_kCh2, q_ch2O, q_ch2R, intsD_map, q_inL, q_notInL, q_eLR, q_kLR, q_gLR1, q_gLR2, q_eDk, q_kDk, q_kDkE, q_dkR, q_eMp0, q_kMp0, q_mp0P, q_mp0R, q_getP0, q_getP1, q_getPk, q_lstP0, q_lstP1, q_lstPk, q_setP0, q_setP1, q_setPk, q_sAugS, q_kAugS, q_kAug1, q_kAug2, q_intAt, q_intD, q_kAug3, q_kAug4, q_kAug5, q_gRevL, q_gRevR, q_eM2, q_kM2a, q_kM2, q_kM2b, q_m2R, q_popAt, q_eLn, Wx_ln, q_kLnB, q_kLnI, q_kLnN, q_kLnS, q_frzS0, q_frzS1, q_fzO0, q_fzO1, q_frz_lst, q_frz_ro, q_frz_tup, q_frz_int, q_frz_bl, q_frz_non, q_frz_str, q_callEndX, q_sTry, q_kTryO, q_kTryX, Wx_kTry, q_tryE, q_sRaise, q_kRaise, q_eWh, q_kWh, q_whR, q_fz_xc, zd_xc, finEq, endX_at, is_xn, q_eFld, q_kFld, q_fldR, q_fldG, q_fldV, q_sFldS, q_kSFld, q_setFld, q_eMake, q_kMake, q_argsF0, q_argsFv, q_argsFs, q_callM, q_mkRo, q_mkRx, q_eMeth, q_kMeth, q_methR, q_tabAt, q_methT, q_kMethC, zd_ins, q_frz_ins, nz_ins, is_insN, q_isq, q_sUnpL, q_kUnpL, q_eLs, q_kLs, q_lsR, q_eIns, q_kIns, q_kIns1, q_kIns2, q_insO, q_insR, q_eCat, q_kCat, q_catO, q_catR, q_eKx, q_kKx, q_kxD, q_keyI, q_keyS, q_eDd, q_kDd, q_ddR, q_eDc, q_kDc, q_kDcE, q_dcR, q_mPr, q_kPr, q_kPr2, q_iZipS, q_kZipS, q_zipSR, zipS_l, zipS_r, zipS_t, zipS_lr, zipS_rl, zipS_tl, zipS_lt, zipS_rt, zipS_tr, q_iEnumS, q_kEnumS, q_enR, q_enS, sqOf_l, sqOf_r, sqOf_t, q_sStar, q_kStar, q_gMulT, q_eMp1, q_mp1O, q_mp1P, q_mp1R, q_sStarL, q_kStarL, q_sAugF, q_augF, q_augF1, q_kAugF, q_augF2, q_augF3, q_eCallV, q_callV, q_callV1, q_eKd, q_kKd, q_kdR, q_kdR1, q_eLcX, q_kLcX, q_sTryR, q_kTryRO, q_kTryRX, Wx_kTryR, q_tryRE, q_eSpl, q_eLZ, q_kLZ, q_lzR, q_lzS, q_gOddL, q_gOddR, q_eLZ3, q_kLZ3, q_lzR3, q_gRevAL, q_gRevAR, q_gRevAT, sortT_ints, q_eOrT, q_kOrTl, q_kOrTt, q_eD0, q_eDg, q_dgS, q_kDg, q_dgD, q_sDp, q_kDp, q_kDp2, q_dpS, q_eLnL, q_kLnL, Wx_lnL, q_eLnO, q_kLnO, Wx_lnO, ow_non, ow_bl, ow_int, ow_str, ow_tup, ow_lst, ow_nil, ow_cons, q_eFm0, q_fm0I, q_fm0K, q_fm0L, q_fm0R, q_eFm1, q_fm1I, q_fm1K, q_fm1L, q_fm1R, q_sFs, q_kFs, q_fsI, q_fsK, q_fsL, q_fsR, q_sFld2, q_kSF2, q_setF2, q_setK2, q_fldI])
  | `(tactic| simp! [$xs,*]) => `(tactic| simp (disch := (first | with_reducible assumption | omega | (apply mul_ok1; omega) | (apply mul_ok2; omega) | (simp only [frzdL_append, frzdL_map_int, frzdL_irange, zd_non, zd_bl, zd_int, zd_str, zd_fn, zd_ty, zd_tup, zd_lst, zd_ro, zd_nil, zd_cons, List.length_append, List.length_map, List.length_cons, List.length_nil, irange_len, repD_len, Bool.and_eq_true, Bool.not_false, true_and, and_true, and_self, *]; done) | (simp only [frzdL_append, frzdL_map_int, frzdL_irange, zd_non, zd_bl, zd_int, zd_str, zd_fn, zd_ty, zd_tup, zd_lst, zd_ro, zd_nil, zd_cons, List.length_append, List.length_map, List.length_cons, List.length_nil, irange_len, repD_len, Bool.and_eq_true, Bool.not_false, true_and, and_true, and_self, *]; omega) | decide)) only [q_oR, q_sNil, q_sSeq, q_kSeq1, q_kSeq2, q_kSeq3, q_kSeq4, q_sSet, q_kSet, q_sRet, q_kRet, q_sRetV, q_kRv, q_sRetN, q_sEx, q_kEx, q_sBrk, q_sCnt, q_sIf, q_eIf, q_kIf, q_sAug, q_kAug0, q_kAug, q_augR, q_setR, q_sSub, q_kSub, q_kSub1, q_kSub2, q_kSub3, q_ixS, q_setIx, q_setIx1, q_sPar, q_kPar, q_parR, q_sUnp, q_kUnp, q_sFor, q_tB, q_kB, q_tTr, q_kTr, q_trR, q_tNot, q_kTn, q_tAnd, q_kTa, q_tOr, q_kTo, q_tYes, q_eC, q_eN, q_kN, q_eMv, q_kMv, q_eFz, q_kFz, q_oV, q_kOv, q_oS, q_kOs, q_aNil, q_aCons, q_kC1, q_kC2, q_opS, q_kOp, q_e2, q_opA, q_kOpA, q_e2A, q_eIx, q_kIx, q_ixO, q_ixR, q_eTup, q_kTup, q_tupR, q_eLst, q_kLst, q_lstR, q_eAnd, q_kAnd, q_eOr, q_kOr, q_eNot, q_kNot, q_eNeg, q_kNeg, q_eM0, q_kM0, q_m0R, q_eM1, q_kM1a, q_kM1, q_kM1b, q_m1R, q_eLc, q_kLc, q_kLcE, q_iRng, q_kRng, q_rng1, q_rng2, q_iRng3, q_kRng3, q_rng3, q_ysR, q_iSeq, q_kSeqI, q_seqR, q_iZip, q_kZip, q_zipR, q_enuO, q_iEnum, q_kEnu, q_enuR, q_eCall, q_kCall, q_callR, q_argsOf1, q_argR, q_getL1, q_consR, q_keepLs, q_keepLv, q_keepR, q_tops1, q_topR, q_brw1, q_brwR, q_callEnd, q_callEndX, q_gTup, q_gCons, q_gCk, r_setAll0, r_setAll1, r_getOv, r_getOs, r_getL0, r_keepL0, r_tops0, r_okTv, r_okTs, r_okOv, r_okOs, r_argsOf0, r_refs0, r_refs1, r_refs2, r_refs3, r_brw0, r_brw2, r_brw3, r_putB0, r_putB1, r_putB2, r_putB3, r_putBx, r_endOk0, r_endOk1, r_gN, r_gNil, r_wipe0, r_wipe1, z_non, z_bl, z_int, z_str, z_fn, z_ty, z_tup, z_lst, z_ro, z_nil, z_cons, zd_non, zd_bl, zd_int, zd_str, zd_fn, zd_ty, zd_tup, zd_lst, zd_ro, zd_nil, zd_cons, nz_non, nz_bl, nz_int, nz_str, nz_tup, nz_lst, nz_nil, nz_cons, tf_lst, tf_tup, tf_ro, tf_int, tf_str, tf_bl, it_lst, it_tup, it_ro, lo_lst, lo_ro, sd_lst, sd_ro, sd_tup, f_add, f_sub, f_addI, f_mul, f_div, f_mod, f_pow, f_shl, f_lt, f_le, f_gt, f_ge, g_addI, g_addL, g_addT, g_mulI, g_mulL, f_abs, f_max, f_min, f_intI, f_intB, f_lenL, f_lenT, f_lenR, f_isi, f_isi2, ix_lstI, ix_tupI, ix_roI, f_isBB, f_notBB, f_app, tr_bl, tr_int, b_nil, b_true, b_false, eq_int, ne_int, eq_bl, ne_bl, f_all, f_any, f_sum, zip_l, zip_r, zip_t, ty_non, ty_bl, ty_int, ty_str, ty_tup, ty_lst, ty_ro, is_nn, is_bn, is_in, is_sn, is_tn, is_ln, Wx_ok, Wx_exc, q_bind, kW_at, g_ok, o_ok, frz_if, flow_nx, flow_ct, flow_bk, flow_rt, fin_rt', fin_nx', endR_at, Wg_some, Wg_gN, List.getElem?_cons_zero, List.getElem?_cons_succ, List.set_cons_zero, List.set_cons_succ, Option.join_some, Option.join_none, Option.map_some, Option.map_none, Option.bind_some, Option.bind_none, List.length_cons, List.length_nil, Nat.zero_add, decide_true, decide_false, decide_eq_true_eq, Bool.not_true, Bool.not_false, Bool.not_not, Bool.true_and, Bool.and_true, Bool.false_and, Bool.and_false, Bool.or_true, Bool.true_or, Bool.or_false, Bool.false_or, Bool.not_eq_true', decide_eq_false_iff_not, Bool.and_eq_true, Bool.or_eq_true, Bool.false_eq_true, if_true, if_false, ite_true, ite_false, reduceIte, true_and, and_true, and_self, not_true_eq_false, not_false_eq_true, or_true, true_or, or_false, false_or, false_and, and_false, apart0, apart1, apart2, List.isEmpty_nil, List.isEmpty_cons, atI_0, atI_1, atI_2, atI_m1, Int.toNat_natCast, Int.reduceNeg, frzdL_map_int, frzL_map_int, nofz_ints, irange_len, ne_eq, reduceCtorEq, implies_true, true_imp_iff, false_imp_iff, eq_self, q_kFr, q_eFr, eq_intsL, ne_intsL, eq_intsT, q_eSs, q_kSs, q_kSsE, q_ssR, q_eSset, q_kSset, q_setO1, q_sorted, q_kIn, q_lIn, q_kLc2E, q_kLc2, q_eLc2, q_getPT, q_lstPT, q_setPT, q_setPkT, q_sl00, q_sl10, q_sl01, q_sl11, q_slL, q_slR, q_slT, q_slS, q_oI, q_kIv, q_kIs, q_kIs1, q_sForMv, q_kForMv, q_oTy, q_kTy, q_oTrL, q_oTrR, q_oTrS, q_count, q_eCh, q_kCh, q_chL, q_chR, q_kCh1, q_kCh2, q_ch2O, q_ch2R, intsD_map, q_inL, q_notInL, q_eLR, q_kLR, q_gLR1, q_gLR2, q_eDk, q_kDk, q_kDkE, q_dkR, q_eMp0, q_kMp0, q_mp0P, q_mp0R, q_getP0, q_getP1, q_getPk, q_lstP0, q_lstP1, q_lstPk, q_setP0, q_setP1, q_setPk, q_sAugS, q_kAugS, q_kAug1, q_kAug2, q_intAt, q_intD, q_kAug3, q_kAug4, q_kAug5, q_gRevL, q_gRevR, q_eM2, q_kM2a, q_kM2, q_kM2b, q_m2R, q_popAt, q_eLn, Wx_ln, q_kLnB, q_kLnI, q_kLnN, q_kLnS, q_frzS0, q_frzS1, q_fzO0, q_fzO1, q_frz_lst, q_frz_ro, q_frz_tup, q_frz_int, q_frz_bl, q_frz_non, q_frz_str, q_callEndX, q_sTry, q_kTryO, q_kTryX, Wx_kTry, q_tryE, q_sRaise, q_kRaise, q_eWh, q_kWh, q_whR, q_fz_xc, zd_xc, finEq, endX_at, is_xn, q_eFld, q_kFld, q_fldR, q_fldG, q_fldV, q_sFldS, q_kSFld, q_setFld, q_eMake, q_kMake, q_argsF0, q_argsFv, q_argsFs, q_callM, q_mkRo, q_mkRx, q_eMeth, q_kMeth, q_methR, q_tabAt, q_methT, q_kMethC, zd_ins, q_frz_ins, nz_ins, is_insN, q_isq, q_sUnpL, q_kUnpL, q_eLs, q_kLs, q_lsR, q_eIns, q_kIns, q_kIns1, q_kIns2, q_insO, q_insR, q_eCat, q_kCat, q_catO, q_catR, q_eKx, q_kKx, q_kxD, q_keyI, q_keyS, q_eDd, q_kDd, q_ddR, q_eDc, q_kDc, q_kDcE, q_dcR, q_mPr, q_kPr, q_kPr2, q_iZipS, q_kZipS, q_zipSR, zipS_l, zipS_r, zipS_t, zipS_lr, zipS_rl, zipS_tl, zipS_lt, zipS_rt, zipS_tr, q_iEnumS, q_kEnumS, q_enR, q_enS, sqOf_l, sqOf_r, sqOf_t, q_sStar, q_kStar, q_gMulT, q_eMp1, q_mp1O, q_mp1P, q_mp1R, q_sStarL, q_kStarL, q_sAugF, q_augF, q_augF1, q_kAugF, q_augF2, q_augF3, q_eCallV, q_callV, q_callV1, q_eKd, q_kKd, q_kdR, q_kdR1, q_eLcX, q_kLcX, q_sTryR, q_kTryRO, q_kTryRX, Wx_kTryR, q_tryRE, q_eSpl, q_eLZ, q_kLZ, q_lzR, q_lzS, q_gOddL, q_gOddR, q_eLZ3, q_kLZ3, q_lzR3, q_gRevAL, q_gRevAR, q_gRevAT, sortT_ints, q_eOrT, q_kOrTl, q_kOrTt, q_eD0, q_eDg, q_dgS, q_kDg, q_dgD, q_sDp, q_kDp, q_kDp2, q_dpS, q_eLnL, q_kLnL, Wx_lnL, q_eLnO, q_kLnO, Wx_lnO, ow_non, ow_bl, ow_int, ow_str, ow_tup, ow_lst, ow_nil, ow_cons, q_eFm0, q_fm0I, q_fm0K, q_fm0L, q_fm0R, q_eFm1, q_fm1I, q_fm1K, q_fm1L, q_fm1R, q_sFs, q_kFs, q_fsI, q_fsK, q_fsL, q_fsR, q_sFld2, q_kSF2, q_setF2, q_setK2, q_fldI, q_eZ0, q_eZni, q_zniR, q_zkD, q_eZg, q_zgR, q_zgO, q_sZp, q_kZp, q_zpR, q_eDni, q_dniR, q_gDictP, $xs,*])
local macro_rules
  | `(tactic| row_cond $h) => `(tactic| (rw [Wx_ite]; refine ⟨fun $h => ?_, fun $h => ?_⟩))


theorem take_ok {n : Nat} {d : D} {top : Int} (h : Bx n d) (hn : n ≤ 2 ^ 40) (h0 : 0 < top) (h1 : top < 2 ^ 29) : ∃ r d', P__law_take [d, .int top] = .ok (.int r) [d'] ∧ 0 ≤ r ∧ r < top ∧ Bx (n + 1) d' := by
  obtain ⟨a, b, c, rfl, ha, hb, hb', hc, hc'⟩ := h.ex
  have e1 : top ≠ 0 := by omega
  have e2 : top.natAbs < 1073741824 := by omega
  by_cases h : 0 < a
  · refine ⟨a.fmod top, .lst true [.int (a.fdiv top), .int b, .int c], ?_, Int.fmod_nonneg ha (by omega), Int.fmod_lt_of_pos _ h0, ⟨_, _, _, rfl, ?_, hb, hb', hc, by omega⟩⟩
    · simp [P__law_take_eq, runDef, m__law_take, SV.start, atI_0, atI_1, atI_2, h, backs, setIx, e1, e2, L2.ixN]
    · rw [Int.fdiv_eq_ediv_of_nonneg _ (by omega)]; exact Int.ediv_nonneg ha (by omega)
  · have e3 : mulOk 39373 (c + 1) = true := by simp [mulOk]
    have e4 : mulOk (c + 1) 7919 = true := by simp [mulOk]
    have e5 : (b + 39373 * (c + 1)).natAbs < 2 ^ 64 := by omega
    have e6 : ∀ x y : Int, mulOk x (y.fmod 40009 + 7) = true := fun x y => by
      have := Int.fmod_nonneg_of_pos y (show (0 : Int) < 40009 by decide)
      have := Int.fmod_lt_of_pos y (show (0 : Int) < 40009 by decide)
      simp only [mulOk, Bool.or_eq_true, decide_eq_true_eq]
      exact .inl (.inr (by omega))
    have key : ∀ o : Int, o = ((b + 39373 * (c + 1)) ^ 5).fmod 2147483647 → P__law_take [.lst true [.int a, .int b, .int c], .int top] = .ok (.int ((((o * (o.fmod 40009 + 7) + (c + 1) * 7919).fmod 2147483629).fdiv 64).fmod top)) [.lst true [.int a, .int b, .int (c + 1)]] := fun o ho => by
      simp [P__law_take_eq, runDef, m__law_take, SV.start, atI_0, atI_1, atI_2, h, backs, setIx, e1, e2, L2.ixN, e3, e4, e5, e6, ← ho]
    refine ⟨_, .lst true [.int a, .int b, .int (c + 1)], key _ rfl, Int.fmod_nonneg_of_pos _ h0, Int.fmod_lt_of_pos _ h0, ⟨_, _, _, rfl, ha, hb, hb', by omega, by omega⟩⟩

theorem same_list (n : Nat) (ih : ∀ d : D, gd d = true → dep d < n → P__law_same n [d, d] = .ok (.bl true) []) (D1 : D) (xs : List D) (h1 : gdL xs = true) (h3 : depL xs < n) : lcL [2, 3] (gTup 2 (gCons (gN 2) (gCons (gN 3) gNil))) tYesM (eCall [false, false] (P__law_same n) (aCons (oS 2) (aCons (oS 3) aNil))) (zipL xs xs) [some D1, some D1, none, none] = .ok ((zipL xs xs).map fun _ => D.bl true) [some D1, some D1, none, none] := by
  refine lc_map fun y hy => ?_
  obtain ⟨x, hx, rfl⟩ := zip_self_mem hy
  have gx := gd_mem h1 hx
  have fx := (gd_both x gx).1
  have e := ih x gx (by have := dep_mem hx; omega)
  refine ⟨[some D1, some D1, some x, some x], [some D1, some D1, some x, some x], [some D1, some D1, some x, some x], rfl, rfl, ?_, rfl⟩
  simp [fx, e, frz_of fx]
theorem same_ok : ∀ (n : Nat) (d : D), gd d = true → dep d < n → P__law_same n [d, d] = .ok (.bl true) []
  | 0, d, _, h => by omega
  | n + 1, d, hd, h => by
    have ⟨hf, hp⟩ := gd_both d hd
    cases d with
    | lst o xs =>
      simp only [gd, Bool.and_eq_true, decide_eq_true_eq, Bool.not_eq_true'] at hd
      obtain ⟨rfl, h2, h3⟩ := hd
      have e : dep (.lst false xs) = depL xs + 1 := by simp only [dep]
      have key := same_list n (fun d h1 h2 => same_ok n d h1 h2) (.lst false xs) xs h3 (by omega)
      simp only [P__law_same_s]
      simp [m__law_same, SV.start, frzL_of (show frzdL xs = true from by simpa using hf), show frzdL xs = true from by simpa using hf, zip_self_len, h2, isIn, isTys, isB, key, f_allT]
    | ro xs =>
      simp only [gd, Bool.and_eq_true, decide_eq_true_eq, Bool.not_eq_true'] at hd
      obtain ⟨h2, h3⟩ := hd
      have e : dep (.ro xs) = depL xs + 1 := by simp only [dep]
      have key := same_list n (fun d h1 h2 => same_ok n d h1 h2) (.ro xs) xs h3 (by omega)
      simp only [P__law_same_s]
      simp [m__law_same, SV.start, frzL_of (show frzdL xs = true from by simpa using hf), show frzdL xs = true from by simpa using hf, zip_self_len, h2, isIn, isTys, isB, key, f_allT]
    | tup xs =>
      simp only [gd, Bool.and_eq_true, decide_eq_true_eq, Bool.not_eq_true'] at hd
      obtain ⟨h2, h3⟩ := hd
      have e : dep (.tup xs) = depL xs + 1 := by simp only [dep]
      have key := same_list n (fun d h1 h2 => same_ok n d h1 h2) (.tup xs) xs h3 (by omega)
      simp only [P__law_same_s]
      simp [m__law_same, SV.start, frzL_of (show frzdL xs = true from by simpa using hf), show frzdL xs = true from by simpa using hf, zip_self_len, h2, isIn, isTys, isB, key, f_allT]
    | non => simp [P__law_same_s, m__law_same, SV.start, isIn, isTys, isB, eq_nn]
    | bl b => simp [P__law_same_s, m__law_same, SV.start, isIn, isTys, isB]
    | int b => simp [P__law_same_s, m__law_same, SV.start, isIn, isTys, isB]
    | str x => simp [P__law_same_s, m__law_same, SV.start, isIn, isTys, isB, eq_ss (show PyData.strOk x = true from hd)]
    | fn | ty | dct | dz | ins | xc => simp [gd] at hd
theorem same_self {d : D} (h : gd d = true) (hd : dep d < 40) : P__law_same_ [d, d] = .ok (.bl true) [] := same_ok 40 d h hd

theorem fmodN {a m : Nat} : Int.fmod (a : Int) (m : Int) = ((a % m : Nat) : Int) := by
  rw [Int.fmod_eq_emod_of_nonneg _ (by omega)]; rfl
theorem enum_at {ys : List D} : ∀ {k i : Nat} {y : D}, (enumL k ys)[i]? = some y → ∃ z, ys[i]? = some z ∧ y = .tup [.int ((k + i : Nat) : Int), z] := by
  induction ys with
  | nil => intro k i y h; simp [enumL] at h
  | cons x xs ih =>
    intro k i y h
    cases i with
    | zero => simp [enumL] at h; exact ⟨x, rfl, by rw [← h]; rfl⟩
    | succ i =>
      simp only [enumL, List.getElem?_cons_succ] at h
      obtain ⟨z, h1, h2⟩ := ih h
      exact ⟨z, by simpa using h1, by rw [h2, show k + (i + 1) = k + 1 + i by omega]⟩
theorem glist_ints {o : Bool} {xs : List Int} (h : xs.length ≤ 100000) : gList [.lst o (xs.map D.int)] = some (.lst true (xs.map D.int)) := by
  show (if (xs.map D.int).length ≤ 100000 then _ else _) = _
  rw [if_pos (by rw [List.length_map]; exact h)]
theorem ixN_nat {n k : Nat} (h : k < n) : L2.ixN n (k : Int) = some k := by
  unfold L2.ixN
  rw [if_pos (by omega), if_pos (by omega)]
  rfl
theorem fold_ok {ns : List Int} {N : Nat} (h0 : 1 ≤ N) (h1 : N ≤ 20) (hn : ns.length ≤ 100) : ∃ (o : Bool) (cs : List Int), P__law_folded [.ro (ns.map D.int), .int N] = .ok (.lst o (cs.map D.int)) [] ∧ 1 ≤ cs.length ∧ cs.length ≤ N := by
  suffices h : Cw noC (P__law_folded [.ro (ns.map D.int), .int N]) fun d ps => (∃ (o : Bool) (cs : List Int), d = .lst o (cs.map D.int) ∧ 1 ≤ cs.length ∧ cs.length ≤ N) ∧ ps = [] by
    obtain ⟨d, ps, e, ⟨o, cs, rfl, h2, h3⟩, rfl⟩ := Cw_ex h
    exact ⟨o, cs, e, h2, h3⟩
  refine R__law_folded ?_
  unfold m__law_folded
  have l1 : (ns.take N).length ≤ 100000 := by rw [List.length_take]; omega
  have c1 : cutL (ns.map D.int) none (some (N : Int)) = (ns.take N).map D.int := by rw [cutL_map, cut_to]
  have c2 : cutL (ns.map D.int) (some (N : Int)) (some 63) = ((ns.take 63).drop N).map D.int := by rw [cutL_map, show (63 : Int) = ((63 : Nat) : Int) from rfl, cut_both]
  simp! [c1, c2, frz_ints', glist_ints l1]
  refine Wx_for (fun i st => ∃ (cs : List Int) (o3 o4 : Option D), st = [some (.ro (ns.map D.int)), some (.int N), some (.lst true (cs.map D.int)), o3, o4] ∧ cs.length = min N ns.length) ⟨_, none, none, rfl, List.length_take⟩ ?_ ?_
  · rintro i y s hy ⟨cs, o3, o4, rfl, hl⟩
    obtain ⟨z, h2, rfl⟩ := enum_at hy
    rw [List.getElem?_map] at h2
    obtain ⟨c, h3, rfl⟩ := Option.map_eq_some_iff.mp h2
    have h4 := (List.getElem?_eq_some_iff.mp h3).1
    rw [List.length_drop, List.length_take] at h4
    have hN0 : (N : Int) ≠ 0 := by omega
    have hlt : i % N < cs.length := by
      rw [hl]
      have := Nat.mod_lt i (show 0 < N by omega)
      omega
    have m1 : mulOk c ((i : Int) + 2) = true := by
      simp only [mulOk, Bool.or_eq_true, decide_eq_true_eq]
      exact .inl (.inr (by omega))
    have a1 : (cs.map D.int)[i % N]? = some (.int cs[i % N]) := by rw [List.getElem?_map, List.getElem?_eq_getElem hlt]; rfl
    have a2 : L2.atI (cs.map D.int) ((i % N : Nat) : Int) = some (.int cs[i % N]) := by rw [atI_pos]; exact a1
    have a3 : L2.ixN (cs.map D.int).length ((i % N : Nat) : Int) = some (i % N) := ixN_nat (by rw [List.length_map]; exact hlt)
    simp! [hN0, m1, fmodN, a2, a3, Nat.zero_add]
    exact ⟨cs.set (i % N) (cs[i % N] + c * ((i : Int) + 2)), _, _, by rw [List.map_set], by rw [List.length_set]; exact hl⟩
  · rintro s ⟨cs, o3, o4, rfl, hl⟩
    have e : fNe [.lst false (cs.map D.int), .lst true []] = some (.bl (!decide (cs = []))) := ne_intsL (ys := [])
    by_cases hz : cs = []
    · rw [decide_eq_true hz] at e
      simp! [e]
      exact ⟨true, [0], rfl, by simp, by simpa using h0⟩
    · rw [decide_eq_false hz] at e
      simp! [e]
      exact ⟨false, cs, rfl, List.length_pos_iff.mpr hz, by omega⟩

theorem boxL_ok {ns : List Int} {k : Nat} (hk : k < 100000) : ∃ d, P__law_box [.lst false (ns.map D.int), .int k] = .ok d [] ∧ Bx 0 d := by
  have key : ∀ c : Int, ∃ a b : Int, (∀ x : Int, x = (if c < 0 then -c else c) → mulOk x (if decide (1000000000000000000 ≤ x) = true then 1 else 0) = true ∧ a = x * (if decide (1000000000000000000 ≤ x) = true then 1 else 0)) ∧ b = c.fmod 2147483629 + 7919 * (k : Int) + 11 ∧ 0 ≤ a ∧ 0 ≤ b ∧ b ≤ 2 ^ 40 := fun c => by
    have h1 := Int.fmod_nonneg_of_pos c (show (0 : Int) < 2147483629 by decide)
    have h2 := Int.fmod_lt_of_pos c (show (0 : Int) < 2147483629 by decide)
    refine ⟨_, _, fun x hx => ⟨?_, by rw [hx]⟩, rfl, ?_, by omega, by omega⟩
    · simp only [mulOk, Bool.or_eq_true, decide_eq_true_eq]
      refine .inl (.inr ?_)
      split <;> decide
    · exact Int.mul_nonneg (by split <;> omega) (by split <;> omega)
  have e1 : mulOk 7919 (k : Int) = true := by simp [mulOk]
  by_cases h : k < ns.length
  · obtain ⟨a, b, h1, h2, h3, h4, h5⟩ := key ns[k]
    obtain ⟨h6, h7⟩ := h1 _ rfl
    refine ⟨.lst true [.int a, .int b, .int 0], ?_, ⟨_, _, _, rfl, h3, h4, h5, by omega, by omega⟩⟩
    have e2 : (ns.map D.int)[k]? = some (.int ns[k]) := by rw [List.getElem?_map, List.getElem?_eq_getElem h]; rfl
    simp [P__law_box_eq, runDef, m__law_box, SV.start, backs, h, atI_pos, e1, h2, frz_ints, e2]
    simp at h6 h7
    simp [h6, h7, e1, h2]
  · obtain ⟨a, b, h1, h2, h3, h4, h5⟩ := key 0
    obtain ⟨h6, h7⟩ := h1 _ rfl
    refine ⟨.lst true [.int a, .int b, .int 0], ?_, ⟨_, _, _, rfl, h3, h4, h5, by omega, by omega⟩⟩
    simp [P__law_box_eq, runDef, m__law_box, SV.start, backs, h, atI_pos, e1, h2, frz_ints]
    simp at h6 h7
    simp [h6, h7, e1, h2]

def zn (l : List Nat) : List Int := l.map fun (k : Nat) => (k : Int)
def Row (d : D) (xs : List Int) : Prop := d = .lst false (xs.map D.int) ∨ d = .tup (xs.map D.int)
theorem mul_ok2 {x y : Int} (h : y.natAbs < 2 ^ 64) : mulOk x y = true := by
  simp only [mulOk, Bool.or_eq_true, decide_eq_true_eq]
  exact .inl (.inr h)
theorem irange_zn {n : Nat} {F : D → D} {g : Nat → Nat} (h : ∀ k : Nat, F (.int k) = .int (g k : Nat)) : (irange 0 n).map F = (zn ((List.range n).map g)).map D.int := by
  unfold irange zn
  simp only [List.map_map]
  refine List.map_congr_left fun b _ => ?_
  show F (.int (0 + (b : Int))) = _
  rw [Int.zero_add, h]
  rfl
theorem zn_len {l : List Nat} : (zn l).length = l.length := by unfold zn; simp
theorem zn_app {l r : List Nat} : zn (l ++ r) = zn l ++ zn r := by unfold zn; simp
def prs : List Nat → Nat → List (Int × Int)
  | [], _ => []
  | a :: r, i => ((a : Int), (i : Int)) :: prs r (i + 1)
theorem prs_fst : ∀ {a : List Nat} {i : Nat}, (prs a i).map (·.1) = zn a
  | [], _ => rfl
  | a :: r, i => by show _ :: (prs r (i + 1)).map (·.1) = _; rw [prs_fst]; rfl
theorem nodup_zn {a : List Nat} (h : a.Nodup) : (zn a).Nodup := by
  unfold zn List.Nodup
  rw [List.pairwise_map]
  exact List.Pairwise.imp (fun h z => h (by omega)) h
theorem dic_nd : ∀ {more acc : List (Int × Int)}, ((acc ++ more).map (·.1)).Nodup → more.foldl putI acc = acc ++ more
  | [], acc, _ => by simp
  | p :: more, acc, h => by
    have hn : ¬ (acc.any fun q => decide (q.1 = p.1)) = true := by
      intro z
      obtain ⟨q, hq, e⟩ := List.any_eq_true.mp z
      have e : q.1 = p.1 := of_decide_eq_true e
      rw [List.map_append, List.map_cons, List.nodup_append] at h
      exact h.2.2 q.1 (List.mem_map_of_mem hq) p.1 List.mem_cons_self e
    have e1 : putI acc p = acc ++ [p] := by
      unfold putI
      rw [if_neg hn]
    rw [List.foldl_cons, e1, dic_nd (by simpa using h)]
    simp
theorem dic_prs {a : List Nat} (h : a.Nodup) : dicI (prs a 0) = prs a 0 := by
  unfold dicI
  rw [dic_nd (by rw [List.nil_append, prs_fst]; exact nodup_zn h), List.nil_append]
theorem look_prs {k : Nat} : ∀ {a : List Nat} {i j : Nat}, a.Nodup → a[j]? = some k → lookD (((prs a i).map prK).zip ((prs a i).map prW)) (.inl (k : Int)) = some (.int ((i + j : Nat) : Int))
  | [], i, j, _, h => by simp at h
  | x :: r, i, 0, _, h => by
    simp at h
    subst h
    simp [prs, lookD, prK, prW]
  | x :: r, i, j + 1, hn, h => by
    have h : r[j]? = some k := by simpa using h
    rw [List.nodup_cons] at hn
    have hx : ¬ x = k := fun z => hn.1 (by rw [z]; exact List.mem_of_getElem? h)
    have hx2 : ¬ ((Sum.inl (x : Int) : L2.Key) = Sum.inl (k : Int)) := fun z => hx (by have := Sum.inl.inj z; omega)
    have ih := look_prs (i := i + 1) hn.2 h
    unfold lookD at ih ⊢
    show (List.find? _ (((Sum.inl (x : Int) : L2.Key), D.int (i : Int)) :: ((prs r (i + 1)).map prK).zip ((prs r (i + 1)).map prW))).map _ = _
    rw [List.find?_cons]
    simp only [decide_eq_false hx2]
    rw [ih]
    exact congrArg some (congrArg D.int (by omega))
def swp (y : D) : D := match y with
  | .tup [x, y] => .tup [y, x]
  | _ => .non
theorem prs_enum : ∀ {a : List Nat} {i : Nat}, prsD ((enumL i ((zn a).map D.int)).map swp) = some (prs a i)
  | [], _ => rfl
  | x :: r, i => by
    have e : (enumL i ((zn (x :: r)).map D.int)).map swp = .tup [.int (x : Int), .int (i : Int)] :: (enumL (i + 1) ((zn r).map D.int)).map swp := rfl
    rw [e]
    unfold prsD
    rw [prs_enum]
    rfl
theorem enum_len {ys : List D} : ∀ {k : Nat}, (enumL k ys).length = ys.length := by
  induction ys with
  | nil => intro k; rfl
  | cons x xs ih => intro k; simp only [enumL, List.length_cons, ih]
theorem prW_fr {l : List (Int × Int)} : frzL (l.map prW) = l.map prW := by
  induction l with
  | nil => rfl
  | cons a l ih => rw [List.map_cons]; unfold frzL; rw [ih]; rfl
theorem kD1 {i : Int} : keyD (.int i) = some (.inl i) := (rfl)
theorem inverse_ok {d : D} {a b : List Nat} (hd : Row d (zn a)) (hn : a.Nodup) (hl : a.length ≤ 100) (hb : b.map (fun j => a[j]?) = (List.range a.length).map some) : P_inverse_order [d] = .ok (.lst true ((zn b).map D.int)) [] := by
  refine Cw_eq (R_inverse_order ?_)
  unfold m_inverse_order
  have l1 : (enumL 0 ((zn a).map D.int)).length ≤ 4000 := by rw [enum_len, List.length_map, zn_len]; omega
  rcases hd with rfl | rfl
  all_goals
    simp! [l1]
    refine Wx_map1 swp (fun y hy => ?_) ?_
    · obtain ⟨i, hi⟩ := List.mem_iff_getElem?.mp hy
      obtain ⟨z, h2, rfl⟩ := enum_at hi
      rw [List.getElem?_map] at h2
      obtain ⟨c, h3, rfl⟩ := Option.map_eq_some_iff.mp h2
      show Wg _ _
      simp! [swp]
    · have e1 := prs_enum (a := a) (i := 0)
      have hb0 : ((((zn a).map D.int).length : Nat) : Int).natAbs < 4611686018427387904 := by rw [List.length_map, zn_len]; omega
      have e2 : frz (D.dct true ((prs a 0).map prK) ((prs a 0).map prW)) = .dct false ((prs a 0).map prK) ((prs a 0).map prW) := by
        show D.dct false _ (frzL _) = _
        rw [prW_fr]
      have bl : b.length = a.length := by
        have := congrArg List.length hb
        simpa using this
      have hb1 : ((zn a).map D.int).length = a.length := by rw [List.length_map, zn_len]
      have hb2 : a.length ≤ 100000 := by omega
      rw [hb1] at hb0
      simp! [e1, dic_prs hn, e2, hb1, hb0, hb2]
      refine Wx_map1 (fun y => match y with | .int z => .int ((b.getD z.toNat 0 : Nat) : Int) | _ => .non) (fun y hy => ?_) ?_
      · obtain ⟨k, hk, rfl⟩ := irange_mem hy
        have hk2 : k < b.length := by omega
        have hj : a[b.getD k 0]? = some k := by
          have := congrArg (fun l => l[k]?) hb
          simp only [List.getElem?_map, List.getElem?_range hk, List.getElem?_eq_getElem hk2, Option.map_some, Option.some.injEq] at this
          rw [List.getD_eq_getElem?_getD, List.getElem?_eq_getElem hk2]
          exact this
        have e3 := look_prs (i := 0) hn hj
        rw [Nat.zero_add] at e3
        simp! [Int.zero_add, kD1, e3]
      · rw [irange_zn (g := fun k => b.getD k 0) (fun k => by simp only [Int.toNat_natCast])]
        have e4 : (List.range a.length).map (fun k => b.getD k 0) = b := by
          apply List.ext_getElem
          · simp [bl]
          · intro i h1 h2
            simp [List.getD_eq_getElem?_getD, List.getElem?_eq_getElem h2]
        rw [e4]
        simp!
theorem gdL_ints : ∀ {ns : List Int}, gdL (ns.map D.int) = true
  | [] => rfl
  | n :: r => by simp only [List.map_cons, gdL, gd, gdL_ints, Bool.and_true]
theorem gd_intL {xs : List Int} (h : xs.length ≤ 1000) : gd (.lst false (xs.map D.int)) = true := by
  simp only [gd, gdL_ints, Bool.and_true, Bool.not_false, Bool.true_and, decide_eq_true_eq, List.length_map]
  omega
theorem gtup_ints {o : Bool} {xs : List Int} (h : xs.length ≤ 100000) : gTuple [.lst o (xs.map D.int)] = some (.tup (xs.map D.int)) := by
  show (if (xs.map D.int).length ≤ 100000 then _ else _) = _
  rw [if_pos (by rw [List.length_map]; exact h)]
theorem rv_ints {xs : List Int} : fReverse (xs.map D.int) = some ((xs.map D.int).reverse, .non) := by
  show (if _ then _ else _) = _
  rw [if_pos frz_ints]
theorem irange_id {n : Nat} : irange 0 n = (zn (List.range n)).map D.int := by
  unfold irange zn
  rw [List.map_map]
  refine List.map_congr_left fun b _ => ?_
  show D.int (0 + (b : Int)) = D.int (b : Int)
  rw [Int.zero_add]
theorem at_zn {T : List Nat} {k j : Nat} (h : T[k]? = some j) : L2.atI ((zn T).map D.int) (k : Int) = some (.int j) := by
  unfold zn
  rw [atI_pos, List.map_map, List.getElem?_map, h]
  rfl
theorem gadd_ints {o o' : Bool} {xs ys : List Int} (h : xs.length + ys.length ≤ 100000) : gAdd [.lst o (xs.map D.int), .lst o' (ys.map D.int)] = some (.lst true ((xs ++ ys).map D.int)) := by
  show (if _ then _ else _) = _
  rw [if_pos ⟨frz_ints, frz_ints, by rw [List.length_map, List.length_map]; exact h⟩, List.map_append]

structure IsP (a : List Nat) (n : Nat) : Prop where
  len : a.length = n
  nd : a.Nodup
  lt : ∀ k ∈ a, k < n
theorem nd_le : ∀ {n : Nat} {a : List Nat}, a.Nodup → (∀ k ∈ a, k < n) → a.length ≤ n
  | 0, [], _, _ => Nat.le_refl _
  | 0, k :: _, _, h => absurd (h k List.mem_cons_self) (Nat.not_lt_zero _)
  | n + 1, a, hn, h => by
    have h1 := nd_le (n := n) (a := a.erase n) (hn.erase n) fun k hk => by
      have h2 := h k (List.mem_of_mem_erase hk)
      have h3 : k ≠ n := fun e => by subst e; exact (hn.not_mem_erase) hk
      omega
    by_cases q : n ∈ a
    · rw [List.length_erase_of_mem q] at h1
      omega
    · rw [List.erase_of_not_mem q] at h1
      omega
theorem IsP.onto {a : List Nat} {n p : Nat} (h : IsP a n) (hp : p < n) : p ∈ a := by
  by_cases q : p ∈ a
  · exact q
  · have h1 := nd_le (n := n) (a := p :: a) (List.nodup_cons.mpr ⟨q, h.nd⟩) fun k hk => by
      rcases List.mem_cons.mp hk with rfl | hk
      · exact hp
      · exact h.lt k hk
    rw [List.length_cons, h.len] at h1
    omega
theorem get_idx {a : List Nat} {p : Nat} (h : p ∈ a) : a[a.idxOf p]? = some p := by
  have h1 : a.idxOf p < a.length := List.idxOf_lt_length_iff.mpr h
  rw [List.getElem?_eq_getElem h1, List.getElem_idxOf h1]
theorem nd_inj {a : List Nat} {i j p : Nat} (hn : a.Nodup) (h1 : a[i]? = some p) (h2 : a[j]? = some p) : i = j := by
  obtain ⟨hi, e1⟩ := List.getElem?_eq_some_iff.mp h1
  obtain ⟨hj, e2⟩ := List.getElem?_eq_some_iff.mp h2
  exact (List.getElem_inj hn).mp (e1.trans e2.symm)
def inv (a : List Nat) : List Nat := (List.range a.length).map fun p => a.idxOf p
theorem inv_len {a : List Nat} : (inv a).length = a.length := by unfold inv; rw [List.length_map, List.length_range]
theorem inv_get {a : List Nat} {n p : Nat} (h : IsP a n) (hp : p < n) : ∃ i, (inv a)[p]? = some i ∧ a[i]? = some p := by
  refine ⟨a.idxOf p, ?_, get_idx (h.onto hp)⟩
  unfold inv
  rw [List.getElem?_map, List.getElem?_range (by rw [h.len]; exact hp)]
  rfl
theorem inv_at {a : List Nat} {n p i : Nat} (h : IsP a n) (e : (inv a)[p]? = some i) : a[i]? = some p := by
  have hp : p < n := by
    have := (List.getElem?_eq_some_iff.mp e).1
    rw [inv_len, h.len] at this
    exact this
  obtain ⟨j, h1, h2⟩ := inv_get h hp
  rw [e] at h1
  cases h1
  exact h2
theorem inv_spec {a : List Nat} {n : Nat} (h : IsP a n) : (inv a).map (fun j => a[j]?) = (List.range a.length).map some := by
  unfold inv
  rw [List.map_map]
  refine List.map_congr_left fun p hp => ?_
  rw [h.len, List.mem_range] at hp
  exact get_idx (h.onto hp)
theorem inv_isP {a : List Nat} {n : Nat} (h : IsP a n) : IsP (inv a) n := by
  refine ⟨inv_len.trans h.len, ?_, fun k hk => ?_⟩
  · unfold inv List.Nodup
    rw [List.pairwise_map]
    refine List.Pairwise.imp_of_mem (fun {p q} hp hq hne e => ?_) List.nodup_range
    rw [h.len, List.mem_range] at hp hq
    have h1 := get_idx (h.onto hp)
    have h2 := get_idx (h.onto hq)
    rw [e] at h1
    exact hne (Option.some.inj (h1.symm.trans h2))
  · obtain ⟨p, hp⟩ := List.mem_iff_getElem?.mp hk
    have := (List.getElem?_eq_some_iff.mp (inv_at h hp)).1
    rw [h.len] at this
    exact this
structure Put (r xs : List Int) (a : List Nat) : Prop where
  len : r.length = a.length
  at_ : ∀ i p : Nat, a[i]? = some p → r[p]? = xs[i]?
theorem Put.uniq {r r' xs : List Int} {a : List Nat} {n : Nat} (h : IsP a n) (x : Put r xs a) (y : Put r' xs a) : r = r' := by
  refine List.ext_getElem? fun p => ?_
  by_cases hp : p < n
  · obtain ⟨i, hi⟩ := List.mem_iff_getElem?.mp (h.onto hp)
    rw [x.at_ i p hi, y.at_ i p hi]
  · rw [List.getElem?_eq_none (by rw [x.len, h.len]; omega), List.getElem?_eq_none (by rw [y.len, h.len]; omega)]
theorem Put.back {r xs : List Int} {a : List Nat} {n : Nat} (h : IsP a n) (hx : xs.length = n) (x : Put r xs a) : Put xs r (inv a) :=
  ⟨by rw [inv_len, hx, h.len], fun p i e => (x.at_ i p (inv_at h e)).symm⟩
def andN (a m : List Nat) : List Nat := a.map fun p => m.getD p 0
theorem andN_at {a m : List Nat} {n i q : Nat} (h : IsP a n) (hm : IsP m n) (e : (andN a m)[i]? = some q) : ∃ p, a[i]? = some p ∧ m[p]? = some q := by
  unfold andN at e
  rw [List.getElem?_map] at e
  obtain ⟨p, h1, h2⟩ := Option.map_eq_some_iff.mp e
  have hp : p < m.length := by rw [hm.len]; exact h.lt p (List.mem_of_getElem? h1)
  refine ⟨p, h1, ?_⟩
  rw [List.getD_eq_getElem?_getD, List.getElem?_eq_getElem hp] at h2
  rw [List.getElem?_eq_getElem hp, ← h2]
  rfl
theorem andN_isP {a m : List Nat} {n : Nat} (h : IsP a n) (hm : IsP m n) : IsP (andN a m) n := by
  refine ⟨by unfold andN; rw [List.length_map, h.len], ?_, fun q hq => ?_⟩
  · unfold List.Nodup
    rw [List.pairwise_iff_getElem]
    intro i j hi hj hij e
    obtain ⟨p, h1, h2⟩ := andN_at h hm (List.getElem?_eq_getElem hi)
    obtain ⟨p', h3, h4⟩ := andN_at h hm (List.getElem?_eq_getElem hj)
    rw [← e] at h4
    have := nd_inj hm.nd h2 h4
    subst this
    have := nd_inj h.nd h1 h3
    omega
  · obtain ⟨i, hi⟩ := List.mem_iff_getElem?.mp hq
    obtain ⟨p, _, h2⟩ := andN_at h hm hi
    exact hm.lt q (List.mem_of_getElem? h2)
theorem Put.comp {r r2 xs : List Int} {a m : List Nat} {n : Nat} (h : IsP a n) (hm : IsP m n) (x : Put r xs a) (y : Put r2 r m) : Put r2 xs (andN a m) := by
  refine ⟨by rw [y.len, hm.len, (andN_isP h hm).len], fun i q e => ?_⟩
  obtain ⟨p, h1, h2⟩ := andN_at h hm e
  rw [y.at_ p q h2, x.at_ i p h1]
structure Chn (a : List Nat) (b : Nat) (f : List Nat) : Prop where
  hd : f[0]? = some b
  nd : f.Nodup
  nx : ∀ i k k' : Nat, f[i]? = some k → f[i + 1]? = some k' → a[k]? = some k'
theorem Chn.one {a : List Nat} {b : Nat} : Chn a b [b] := ⟨rfl, List.nodup_cons.mpr ⟨(fun h => nomatch h), List.Pairwise.nil⟩, fun i k k' _ h => by simp at h⟩
theorem Chn.snoc {a f : List Nat} {b n c l : Nat} (h : IsP a n) (x : Chn a b f) (hl : f[f.length - 1]? = some l) (e : a[l]? = some c) (hb : c ≠ b) : Chn a b (f ++ [c]) := by
  have hf : 0 < f.length := by
    have := (List.getElem?_eq_some_iff.mp x.hd).1
    omega
  have hc : c ∉ f := fun hm => by
    obtain ⟨j, hj⟩ := List.mem_iff_getElem?.mp hm
    have jl := (List.getElem?_eq_some_iff.mp hj).1
    cases j with
    | zero => exact hb (Option.some.inj (hj.symm.trans x.hd))
    | succ j =>
      have hj0 : f[j]? = some f[j] := List.getElem?_eq_getElem (by omega)
      have e2 := x.nx j _ _ hj0 hj
      have e3 := nd_inj h.nd e2 e
      rw [e3] at hj0
      have := nd_inj x.nd hj0 hl
      omega
  refine ⟨by rw [List.getElem?_append_left hf]; exact x.hd, ?_, fun i k k' h1 h2 => ?_⟩
  · rw [List.nodup_append]
    exact ⟨x.nd, List.nodup_cons.mpr ⟨(fun h => nomatch h), List.Pairwise.nil⟩, fun p hp q hq e => by rw [List.mem_singleton.mp hq] at e; exact hc (e ▸ hp)⟩
  · have hi := (List.getElem?_eq_some_iff.mp h2).1
    rw [List.length_append, List.length_singleton] at hi
    rw [List.getElem?_append_left (by omega)] at h1
    by_cases q : i + 1 < f.length
    · rw [List.getElem?_append_left q] at h2
      exact x.nx i k k' h1 h2
    · have e1 : i = f.length - 1 := by omega
      subst e1
      rw [List.getElem?_append_right (by omega), show f.length - 1 + 1 - f.length = 0 by omega] at h2
      cases h2
      rw [hl] at h1
      cases h1
      exact e
structure Cyc (a : List Nat) (n : Nat) (f : List Nat) : Prop where
  lt : ∀ k ∈ f, k < n
  rnd : f.drop 1 ++ f.take 1 = f.map fun k => a.getD k 0
  len : f.length ≤ n
  pos : 0 < f.length
theorem Chn.lt {a f : List Nat} {b n : Nat} (h : IsP a n) (hb : b < n) (x : Chn a b f) : ∀ k ∈ f, k < n := fun k hk => by
  obtain ⟨i, hi⟩ := List.mem_iff_getElem?.mp hk
  cases i with
  | zero => rw [x.hd] at hi; cases hi; exact hb
  | succ i =>
    have := (List.getElem?_eq_some_iff.mp hi).1
    exact h.lt k (List.mem_of_getElem? (x.nx i _ k (List.getElem?_eq_getElem (by omega)) hi))
def muR (n : Nat) (st : S) : Nat := match st with
  | [_, _, some (.lst _ xs)] => n + 1 - xs.length
  | _ => 0
theorem zn_snoc {f : List Nat} {l : Nat} : (zn (f ++ [l])).map D.int = (zn f).map D.int ++ [D.int (l : Int)] := by
  rw [zn_app, List.map_append]
  rfl
structure Rd (a : List Nat) (b : Nat) (f : List Nat) : Prop where
  chn : Chn a b f
  clo : ∃ l, f[f.length - 1]? = some l ∧ a[l]? = some b
theorem Rd.pos {a f : List Nat} {b : Nat} (x : Rd a b f) : 0 < f.length := by
  have := (List.getElem?_eq_some_iff.mp x.chn.hd).1
  omega
theorem Rd.pre {a f g : List Nat} {b : Nat} (x : Rd a b f) (y : Rd a b g) : ∀ i, i < f.length → i < g.length → f[i]? = g[i]?
  | 0, _, _ => x.chn.hd.trans y.chn.hd.symm
  | i + 1, h1, h2 => by
    have e1 : f[i]? = some f[i] := List.getElem?_eq_getElem (by omega)
    have e2 : f[i + 1]? = some f[i + 1] := List.getElem?_eq_getElem h1
    have e3 : g[i + 1]? = some g[i + 1] := List.getElem?_eq_getElem h2
    have e4 := (x.pre y i (by omega) (by omega)).symm.trans e1
    have n1 := x.chn.nx i _ _ e1 e2
    have n2 := y.chn.nx i _ _ e4 e3
    rw [e2, e3, ← n1, ← n2]
theorem Rd.le {a f g : List Nat} {b : Nat} (x : Rd a b f) (y : Rd a b g) : g.length ≤ f.length := by
  refine Nat.le_of_not_lt fun h => ?_
  have hp := x.pos
  obtain ⟨l, e1, e2⟩ := x.clo
  have e3 := (x.pre y (f.length - 1) (by omega) (by omega)).symm.trans e1
  have e4 : g[f.length - 1 + 1]? = some g[f.length - 1 + 1] := List.getElem?_eq_getElem (by omega)
  have e5 := (y.chn.nx _ _ _ e3 e4).symm.trans e2
  rw [Option.some.inj e5] at e4
  have := nd_inj y.chn.nd y.chn.hd e4
  omega
theorem Rd.uniq {a f g : List Nat} {b : Nat} (x : Rd a b f) (y : Rd a b g) : f = g := by
  have h1 := x.le y
  have h2 := y.le x
  refine List.ext_getElem? fun i => ?_
  by_cases h : i < f.length
  · exact x.pre y i h (by omega)
  · rw [List.getElem?_eq_none (by omega), List.getElem?_eq_none (by omega)]
theorem rot_get {f : List Nat} {i j : Nat} (hi : i < f.length) : (f.drop i ++ f.take i)[j]? = if j < f.length - i then f[i + j]? else if j < f.length then f[j - (f.length - i)]? else none := by
  by_cases h : j < f.length - i
  · rw [if_pos h, List.getElem?_append_left (by rw [List.length_drop]; exact h), List.getElem?_drop]
  · rw [if_neg h, List.getElem?_append_right (by rw [List.length_drop]; omega), List.length_drop]
    by_cases h2 : j < f.length
    · rw [if_pos h2, List.getElem?_take_of_lt (by omega)]
    · rw [if_neg h2, List.getElem?_eq_none (by rw [List.length_take]; omega)]
theorem Rd.rot {a f : List Nat} {b i k : Nat} (x : Rd a b f) (hk : f[i]? = some k) : Rd a k (f.drop i ++ f.take i) := by
  have hi := (List.getElem?_eq_some_iff.mp hk).1
  have hl : (f.drop i ++ f.take i).length = f.length := by rw [List.length_append, List.length_drop, List.length_take]; omega
  obtain ⟨l, c1, c2⟩ := x.clo
  refine ⟨⟨?_, ?_, fun j u u' h1 h2 => ?_⟩, ?_⟩
  · rw [rot_get hi, if_pos (by omega), Nat.add_zero]
    exact hk
  · have p : (f.drop i ++ f.take i).Perm f := List.perm_append_comm.trans (by rw [List.take_append_drop])
    exact p.nodup_iff.mpr x.chn.nd
  · have hj := (List.getElem?_eq_some_iff.mp h2).1
    rw [hl] at hj
    rw [rot_get hi] at h1 h2
    by_cases q1 : j + 1 < f.length - i
    · rw [if_pos (by omega)] at h1
      rw [if_pos q1] at h2
      exact x.chn.nx (i + j) u u' h1 h2
    · rw [if_neg q1, if_pos hj] at h2
      by_cases q2 : j < f.length - i
      · rw [if_pos q2, show i + j = f.length - 1 by omega, c1] at h1
        rw [show j + 1 - (f.length - i) = 0 by omega, x.chn.hd] at h2
        cases h1
        cases h2
        exact c2
      · rw [if_neg q2, if_pos (by omega)] at h1
        rw [show j + 1 - (f.length - i) = j - (f.length - i) + 1 by omega] at h2
        exact x.chn.nx _ u u' h1 h2
  · rw [hl, rot_get hi]
    by_cases q : i = 0
    · subst q
      rw [if_pos (by omega), show 0 + (f.length - 1) = f.length - 1 by omega]
      refine ⟨l, c1, ?_⟩
      rw [c2, ← x.chn.hd, hk]
    · rw [if_neg (by omega), if_pos (by omega), show f.length - 1 - (f.length - i) = i - 1 by omega]
      have e1 : f[i - 1]? = some f[i - 1] := List.getElem?_eq_getElem (by omega)
      exact ⟨_, e1, x.chn.nx (i - 1) _ _ e1 (by rw [show i - 1 + 1 = i by omega]; exact hk)⟩
theorem rot_mem {f : List Nat} {i x : Nat} : x ∈ f.drop i ++ f.take i ↔ x ∈ f := by
  have p : (f.drop i ++ f.take i).Perm f := List.perm_append_comm.trans (by rw [List.take_append_drop])
  exact p.mem_iff
open Classical in
noncomputable def rF (a : List Nat) (b : Nat) : List Nat := if h : ∃ f, Rd a b f then Classical.choose h else []
theorem rF_eq {a f : List Nat} {b : Nat} (x : Rd a b f) : rF a b = f := by
  have h : ∃ f, Rd a b f := ⟨f, x⟩
  unfold rF
  rw [dif_pos h]
  exact (Classical.choose_spec h).uniq x
theorem round_okR {d : D} {a : List Nat} {n b : Nat} (hd : Row d (zn a)) (h : IsP a n) (hb : b < n) (hn : n ≤ 100) : ∃ f : List Nat, P_round_from [d, .int b] = .ok (.lst true ((zn f).map D.int)) [] ∧ Rd a b f := by
  suffices hs : Cw noC (P_round_from [d, .int b]) fun d ps => ∃ f : List Nat, d = .lst true ((zn f).map D.int) ∧ ps = [] ∧ Rd a b f by
    obtain ⟨d, ps, e, f, rfl, rfl, c⟩ := Cw_ex hs
    exact ⟨f, e, c⟩
  refine R_round_from ?_
  unfold m_round_from
  simp!
  refine Wx_while (fun st => ∃ (f : List Nat) (l : Nat), st = [some d, some (.int b), some (.lst true ((zn (f ++ [l])).map D.int))] ∧ Chn a b (f ++ [l])) (muR n) ⟨[], b, rfl, Chn.one⟩ ?_ ?_
  · rintro st ⟨f, l, rfl, hc⟩
    have lt := hc.lt h hb
    have hl : l < n := lt l (List.mem_append_right _ List.mem_cons_self)
    have hla : (f ++ [l])[(f ++ [l]).length - 1]? = some l := by
      rw [List.length_append, List.length_singleton, Nat.add_sub_cancel, List.getElem?_append_right (Nat.le_refl _), Nat.sub_self]
      rfl
    have e1 : L2.atI ((zn f).map D.int ++ [D.int (l : Int)]) (-1) = some (.int l) := atI_m1
    have ha : l < a.length := by rw [h.len]; exact hl
    obtain ⟨c, ec⟩ : ∃ c, a[l]? = some c := ⟨_, List.getElem?_eq_getElem ha⟩
    have e2 := at_zn ec
    have ll := nd_le hc.nd lt
    have hlen : ((zn f).map D.int ++ [D.int (l : Int)]).length < 100000 := by
      rw [← zn_snoc, List.length_map, zn_len]
      omega
    rcases hd with rfl | rfl
    · simp! [zn_snoc, e1, e2]
      refine ⟨fun q => ?_, fun q => ?_⟩
      · have q' : c ≠ b := by omega
        simp! [e1, e2, hlen]
        refine ⟨⟨f ++ [l], c, ?_, Chn.snoc h hc hla ec q'⟩, ?_⟩
        · simp only [zn_snoc, List.append_assoc, List.cons_append, List.nil_append]
        · simp only [muR, List.length_append, List.length_map, zn_len, List.length_cons, List.length_nil] at ll ⊢
          omega
      · have q' : c = b := by first | omega | (simp at q; omega)
        subst q'
        simp!
        exact ⟨f ++ [l], zn_snoc.symm, hc, l, hla, ec⟩
    · simp! [zn_snoc, e1, e2]
      refine ⟨fun q => ?_, fun q => ?_⟩
      · have q' : c ≠ b := by omega
        simp! [e1, e2, hlen]
        refine ⟨⟨f ++ [l], c, ?_, Chn.snoc h hc hla ec q'⟩, ?_⟩
        · simp only [zn_snoc, List.append_assoc, List.cons_append, List.nil_append]
        · simp only [muR, List.length_append, List.length_map, zn_len, List.length_cons, List.length_nil] at ll ⊢
          omega
      · have q' : c = b := by first | omega | (simp at q; omega)
        subst q'
        simp!
        exact ⟨f ++ [l], zn_snoc.symm, hc, l, hla, ec⟩
  · unfold muR
    show n + 1 - ((zn ([] ++ [b])).map D.int).length < 1000000000
    omega
theorem rF_ok {a : List Nat} {n b : Nat} (h : IsP a n) (hb : b < n) (hn : n ≤ 100) : Rd a b (rF a b) := by
  obtain ⟨f, _, x⟩ := round_okR (.inl rfl) h hb hn
  rw [rF_eq x]
  exact x
theorem rF_mem {a : List Nat} {n b k : Nat} (h : IsP a n) (hb : b < n) (hn : n ≤ 100) (hk : k ∈ rF a b) : k < n ∧ ∀ x, x ∈ rF a k ↔ x ∈ rF a b := by
  have x := rF_ok h hb hn
  obtain ⟨i, hi⟩ := List.mem_iff_getElem?.mp hk
  refine ⟨x.chn.lt h hb k hk, fun y => ?_⟩
  rw [rF_eq (x.rot hi)]
  exact rot_mem
theorem rF_self {a : List Nat} {n b : Nat} (h : IsP a n) (hb : b < n) (hn : n ≤ 100) : b ∈ rF a b := List.mem_of_getElem? (rF_ok h hb hn).chn.hd
theorem rF_len {a : List Nat} {n b : Nat} (h : IsP a n) (hb : b < n) (hn : n ≤ 100) : 0 < (rF a b).length ∧ (rF a b).length ≤ n := ⟨(rF_ok h hb hn).pos, nd_le (rF_ok h hb hn).chn.nd ((rF_ok h hb hn).chn.lt h hb)⟩

def fL (f : List Nat) : D := .lst true ((zn f).map D.int)
def fB (f : List Nat) : D := .lst false ((zn f).map D.int)
def pF (f : List Nat) : Bool := decide (1 < f.length) && decide (((f.headD 0 : Nat) : Int) = minI (zn f))
def pD : D → Bool
  | .lst _ xs => decide (1 < xs.length) && (match xs with
    | .int z :: _ => decide (z = minI (xs.map fun | .int w => w | _ => 0))
    | _ => false)
  | _ => false
theorem pD_fL {f : List Nat} (h : 0 < f.length) : pD (fL f) = pF f := by
  unfold fL pD pF
  cases f with
  | nil => cases h
  | cons b r =>
    have e : (((zn (b :: r)).map D.int).map fun | .int w => w | _ => 0) = zn (b :: r) := by
      rw [List.map_map]
      exact List.map_id' _
    simp only [List.length_map, zn_len, e]
    rfl
noncomputable def cyF (a : List Nat) (n : Nat) : List (List Nat) := ((List.range n).map (rF a)).filter pF
theorem frz_fL {f : List Nat} : frz (fL f) = fB f := by
  unfold fL fB
  rw [z_lst, frz_ints']
theorem cycR_ok {d : D} {a : List Nat} {n : Nat} (hd : Row d (zn a)) (h : IsP a n) (hn : n ≤ 100) : P_order_cycles [d] = .ok (.lst true ((cyF a n).map fL)) [] := by
  have la : (zn a).length = n := by rw [zn_len, h.len]
  have dF : frzd d = true := by rcases hd with rfl | rfl <;> simp [frzd, frz_ints]
  have dz := frz_of dF
  have dl : fLen [d] = some (.int (n : Nat)) := by
    rcases hd with rfl | rfl
    · simp! [List.length_map, la]
    · simp! [List.length_map, la]
  have hb0 : ((n : Nat) : Int).natAbs < 4611686018427387904 := by omega
  have hb2 : n ≤ 100000 := by omega
  refine Cw_eq (R_order_cycles ?_)
  unfold m_order_cycles
  simp! [dF, dz, dl, hb0, hb2]
  refine Wx_lc (fun i acc st => st = [some d, none, none, none] ∧ acc = ((List.range i).map (rF a)).map fL) ⟨rfl, rfl⟩ ?_ ?_
  · rintro i y acc st hy ⟨rfl, rfl⟩
    obtain ⟨hi, rfl⟩ := irange_get hy
    obtain ⟨f, e, x⟩ := round_okR hd h hi hn
    simp! [Int.zero_add, dF, dz, e]
    rw [List.range_succ, List.map_append, List.map_append, List.map_singleton, List.map_singleton, rF_eq x]
    rfl
  · rintro ds st ⟨rfl, rfl⟩
    rw [irange_len]
    have hl : (((List.range n).map (rF a)).map fL).length ≤ 100000 := by rw [List.length_map, List.length_map, List.length_range]; omega
    simp! [q_eLcMv, q_kLcMv hl]
    refine Wx_filter (fun y => y) pD (fun y hy => ?_) ?_
    · obtain ⟨f, hf, rfl⟩ := List.mem_map.mp hy
      obtain ⟨b, hb, rfl⟩ := List.mem_map.mp hf
      have hb := List.mem_range.mp hb
      obtain ⟨p1, p2⟩ := rF_len h hb hn
      generalize rF a b = f at p1 p2
      obtain ⟨b, r, rfl⟩ : ∃ b r, f = b :: r := by
        cases f with
        | nil => exact absurd p1 (Nat.lt_irrefl _)
        | cons b r => exact ⟨b, r, rfl⟩
      rw [pD_fL p1]
      have hm : 0 < (zn (b :: r)).length := by rw [zn_len]; exact p1
      have e1 : L2.atI ((zn (b :: r)).map D.int) 0 = some (.int b) := at_zn (T := b :: r) (k := 0) (j := b) rfl
      have e2 := min_l (o := false) hm
      have e3 := min_l (o := true) hm
      have hll : ((zn (b :: r)).map D.int).length = (b :: r).length := by rw [List.length_map, zn_len]
      have P1 : pF (b :: r) = (decide (1 < r.length + 1) && decide ((b : Int) = minI (zn (b :: r)))) := rfl
      unfold fL
      by_cases q1 : 1 < r.length + 1
      · have q1' : (1 : Int) < ((r.length + 1 : Nat) : Int) := by omega
        by_cases q2 : (b : Int) = minI (zn (b :: r))
        · rw [show pF (b :: r) = true by rw [P1, decide_eq_true q1, decide_eq_true q2]; rfl]
          simp! [hll, q1', e1, e2, e3, q2]
        · rw [show pF (b :: r) = false by rw [P1, decide_eq_false q2, Bool.and_false]]
          simp! [hll, q1', e1, e2, e3, q2]
      · have q1' : ¬ (1 : Int) < ((r.length + 1 : Nat) : Int) := by omega
        rw [show pF (b :: r) = false by rw [P1, decide_eq_false q1]; rfl]
        simp! [hll, q1']
    · simp!
      rw [List.map_id']
      unfold cyF
      rw [List.filter_map]
      refine congrArg (fun l => D.lst true (l.map fL)) (List.filter_congr fun f hf => ?_)
      obtain ⟨b, hb, rfl⟩ := List.mem_map.mp hf
      exact pD_fL (rF_len h (List.mem_range.mp hb) hn).1

theorem mem_zn {f : List Nat} {k : Nat} : (k : Int) ∈ zn f ↔ k ∈ f := by
  unfold zn
  constructor
  · intro h
    obtain ⟨j, hj, e⟩ := List.mem_map.mp h
    rw [show k = j by omega]
    exact hj
  · intro h
    exact List.mem_map.mpr ⟨k, h, rfl⟩
theorem walk_ok {a : List Nat} {n b : Nat} {a1 a2 a3 a4 : Option D} {E : Ex} {Q : Fl → S → Prop} (h : IsP a n) (hb : b < n) (hn : n ≤ 100) (hQ : ∀ a4 a5, Q .nx [some (.lst false ((zn a).map D.int)), a1, a2, a3, a4, a5, some (.lst true ((zn (rF a b)).map D.int))]) :
    Wx E (forL (gN 4) (sSeq (sIf (tB (e2 fNotIn (oS 5) (oS 6))) (sSeq (sEx (eM1 6 fApp (eN 5))) (sSeq (sSet 5 (eFr (eIx (oS 0) (oS 5)))) sNil)) sNil) sNil) (irange 0 n) [some (.lst false ((zn a).map D.int)), a1, a2, a3, a4, some (.int (b : Nat)), some (.lst true [])]) Q := by
  have x := rF_ok h hb hn
  obtain ⟨p1, p2⟩ := rF_len h hb hn
  obtain ⟨l, c1, c2⟩ := x.clo
  have lt := x.chn.lt h hb
  generalize hf : rF a b = f at x p1 p2 c1 lt
  refine Wx_rng (fun j st => ∃ a4, st = [some (.lst false ((zn a).map D.int)), a1, a2, a3, a4, some (.int ((f[j]?.getD b : Nat) : Int)), some (.lst true ((zn (f.take j)).map D.int))]) ⟨a4, ?_⟩ ?_ ?_
  · rw [x.chn.hd]
    rfl
  · rintro j st hj ⟨a4, rfl⟩
    by_cases q : j < f.length
    · have ej : f[j]? = some f[j] := List.getElem?_eq_getElem q
      have ni : ¬ ((f[j] : Nat) : Int) ∈ zn (f.take j) := fun hm => by
        obtain ⟨i, hi⟩ := List.mem_iff_getElem?.mp (mem_zn.mp hm)
        have hi2 := (List.getElem?_eq_some_iff.mp hi).1
        rw [List.length_take] at hi2
        rw [List.getElem?_take_of_lt (by omega)] at hi
        have := nd_inj x.chn.nd hi ej
        omega
      have hlen : ((zn (f.take j)).map D.int).length < 100000 := by
        rw [List.length_map, zn_len, List.length_take]; omega
      have hl : f[j] < a.length := by rw [h.len]; exact lt _ (List.getElem_mem q)
      have nxt : a[f[j]]? = some (f[j + 1]?.getD b) := by
        by_cases q2 : j + 1 < f.length
        · have e2 : f[j + 1]? = some f[j + 1] := List.getElem?_eq_getElem q2
          rw [x.chn.nx j _ _ ej e2, e2]
          rfl
        · rw [show f[j + 1]? = none from List.getElem?_eq_none (by omega), Option.getD_none]
          have e3 : f[j] = l := by
            have e4 : f[j]? = some l := by rw [show j = f.length - 1 by omega]; exact c1
            rw [List.getElem?_eq_getElem q] at e4
            exact Option.some.inj e4
          rw [e3]
          exact c2
      have e2 := at_zn nxt
      have et : (zn (f.take j)).map D.int ++ [D.int (f[j] : Nat)] = (zn (f.take (j + 1))).map D.int := by
        rw [List.take_succ, ej, Option.toList_some, zn_snoc]
      rw [ej, Option.getD_some]
      simp! [ni, hlen, e2, et]
      exact ⟨_, rfl⟩
    · have ej : f[j]? = none := List.getElem?_eq_none (by omega)
      have tk : f.take j = f := List.take_of_length_le (by omega)
      have tk1 : f.take (j + 1) = f := List.take_of_length_le (by omega)
      have mi : (b : Int) ∈ zn f := mem_zn.mpr (List.mem_of_getElem? x.chn.hd)
      have ej1 : f[j + 1]? = none := List.getElem?_eq_none (by omega)
      rw [ej, tk, tk1, ej1, Option.getD_none]
      simp! [mi]
      exact ⟨_, rfl⟩
  · rintro st ⟨a4, rfl⟩
    rw [List.take_of_length_le p2]
    rw [hf] at hQ
    exact hQ _ _

theorem cy_frz {fs : List (List Nat)} : frzdL (fs.map fB) = true := by
  induction fs with
  | nil => rfl
  | cons f r ih =>
    rw [List.map_cons]
    show (frzd (fB f) && frzdL (r.map fB)) = true
    rw [ih]
    show (frzdL ((zn f).map D.int) && true) = true
    rw [frz_ints]
    rfl
theorem minI_le {ns : List Int} {m : Int} (h : m ∈ ns) : minI ns ≤ m := by
  cases ns with
  | nil => cases h
  | cons a r => exact foldl_min.2 m h
theorem fresh_iff {a : List Nat} {n k : Nat} (h : IsP a n) (hk : k < n) (hn : n ≤ 100) : (∃ b, b < k ∧ k ∈ rF a b) ↔ ((k : Int) ≠ minI (zn (rF a k))) := by
  have ks := rF_self h hk hn
  constructor
  · rintro ⟨b, hb, hm⟩ e
    obtain ⟨_, m2⟩ := rF_mem h (by omega) hn hm
    have bm : b ∈ rF a k := (m2 b).mpr (rF_self h (by omega) hn)
    have hp : 0 < (zn (rF a k)).length := by rw [zn_len]; exact (rF_len h hk hn).1
    have := minI_le (mem_zn.mpr bm)
    rw [← e] at this
    omega
  · intro hne
    by_cases hx : ∃ x, x ∈ rF a k ∧ x < k
    · obtain ⟨x, hx1, hx2⟩ := hx
      obtain ⟨m1, m2⟩ := rF_mem h hk hn hx1
      exact ⟨x, hx2, (m2 k).mpr ks⟩
    · refine absurd (minI_eq (mem_zn.mpr ks) fun z hz => ?_).symm hne
      obtain ⟨y, hy, rfl⟩ := List.mem_map.mp hz
      exact Int.ofNat_le.mpr (Nat.le_of_not_lt fun hlt => hx ⟨y, hy, hlt⟩)
theorem rounds_ok {a : List Nat} {n : Nat} (h : IsP a n) (hn : n ≤ 100) : P__law_rounds [.lst false ((zn a).map D.int)] = .ok (.lst true ((cyF a n).map fB)) [] := by
  have la : ((zn a).map D.int).length = n := by rw [List.length_map, zn_len, h.len]
  have hb0 : ((n : Nat) : Int).natAbs < 4611686018427387904 := by omega
  have hb2 : n ≤ 100000 := by omega
  refine Cw_eq (R__law_rounds ?_)
  unfold m__law_rounds
  simp! [la, hb0, hb2]
  refine Wx_rng (fun k st => ∃ (mt : List Nat) (a1 a4 a5 a6 : Option D), st = [some (.lst false ((zn a).map D.int)), a1, some (.lst true ((((List.range k).map (rF a)).filter pF).map fB)), some (.lst false ((zn mt).map D.int)), a4, a5, a6] ∧ mt.Nodup ∧ ∀ x, x ∈ mt ↔ ∃ b, b < k ∧ x ∈ rF a b) ⟨[], _, _, _, _, rfl, List.Pairwise.nil, fun x => ⟨fun h => (nomatch h), fun ⟨b, hb, _⟩ => absurd hb (Nat.not_lt_zero _)⟩⟩ ?_ ?_
  · rintro k st hk ⟨mt, a1, a4, a5, a6, rfl, nd, hm⟩
    obtain ⟨p1, p2⟩ := rF_len h hk hn
    have x := rF_ok h hk hn
    have fi := fresh_iff h hk hn
    rw [← hm k] at fi
    have hd : (rF a k).headD 0 = k := by
      have e := x.chn.hd
      generalize rF a k = f at e
      cases f with
      | nil => cases e
      | cons b r => exact Option.some.inj e
    have rs : ((List.range (k + 1)).map (rF a)).filter pF = ((List.range k).map (rF a)).filter pF ++ (if pF (rF a k) = true then [rF a k] else []) := by
      rw [List.range_succ, List.map_append, List.filter_append, List.map_singleton]
      by_cases q : pF (rF a k) = true
      · rw [if_pos q]; simp [List.filter, q]
      · rw [if_neg q]; simp [List.filter, q]
    by_cases q : k ∈ mt
    · have q' : (k : Int) ∈ zn mt := mem_zn.mpr q
      have hp : pF (rF a k) = false := by
        unfold pF
        rw [hd, decide_eq_false (fi.mp q), Bool.and_false]
      rw [hp, if_neg (by decide), List.append_nil] at rs
      simp! [q', Int.zero_add]
      refine ⟨mt, some (.int (k : Nat)), a4, a5, a6, by rw [rs], nd, fun y => ?_⟩
      · rw [hm y]
        constructor
        · rintro ⟨b, hb, hy⟩; exact ⟨b, by omega, hy⟩
        · rintro ⟨b, hb, hy⟩
          by_cases e : b = k
          · subst e
            obtain ⟨c, hc, hc2⟩ := (hm b).mp q
            exact ⟨c, hc, ((rF_mem h (by omega) hn hc2).2 y).mp hy⟩
          · exact ⟨b, by omega, hy⟩
    · have q' : ¬ (k : Int) ∈ zn mt := fun z => q (mem_zn.mp z)
      have e0 : (k : Int) = minI (zn (rF a k)) := Decidable.not_not.mp fun z => q (fi.mpr z)
      have dj : ∀ y, y ∈ rF a k → y ∉ mt := fun y hy z => by
        obtain ⟨b, hb, hb2⟩ := (hm y).mp z
        have e1 := (rF_mem h hk hn hy).2
        have e2 := (rF_mem h (by omega) hn hb2).2
        exact q ((hm k).mpr ⟨b, hb, (e2 k).mp ((e1 k).mpr (rF_self h hk hn))⟩)
      have nd2 : (mt ++ rF a k).Nodup := List.nodup_append.mpr ⟨nd, x.chn.nd, fun y hy z hz e => dj z hz (e ▸ hy)⟩
      have lt2 : ∀ y ∈ mt ++ rF a k, y < n := fun y hy => by
        rcases List.mem_append.mp hy with hy | hy
        · obtain ⟨b, hb, hb2⟩ := (hm y).mp hy
          exact (rF_ok h (by omega) hn).chn.lt h (by omega) y hb2
        · exact x.chn.lt h hk y hy
      have ll := nd_le nd2 lt2
      rw [List.length_append] at ll
      simp! [q', Int.zero_add, la, hb0, hb2]
      refine walk_ok h hk hn fun a4 a5 => ?_
      have g1 := gadd_ints (o := false) (o' := false) (xs := zn mt) (ys := zn (rF a k)) (by rw [zn_len, zn_len]; omega)
      have fz := frz_ints (ns := zn (rF a k))
      have fz2 := frz_ints (ns := zn (mt ++ rF a k))
      have lf : ((zn (rF a k)).map D.int).length = (rF a k).length := by rw [List.length_map, zn_len]
      have cf := cy_frz (fs := ((List.range k).map (rF a)).filter pF)
      have cl : (((((List.range k).map (rF a)).filter pF).map fB)).length ≤ k := by
        rw [List.length_map]
        refine Nat.le_trans (List.length_filter_le _ _) ?_
        rw [List.length_map, List.length_range]
        exact Nat.le_refl _
      have hm2 : ∀ y, y ∈ mt ++ rF a k ↔ ∃ b, b < k + 1 ∧ y ∈ rF a b := fun y => by
        rw [List.mem_append, hm y]
        constructor
        · rintro (⟨b, hb, hy⟩ | hy)
          · exact ⟨b, by omega, hy⟩
          · exact ⟨k, by omega, hy⟩
        · rintro ⟨b, hb, hy⟩
          by_cases e : b = k
          · subst e; exact .inr hy
          · exact .inl ⟨b, by omega, hy⟩
      have zz : zn mt ++ zn (rF a k) = zn (mt ++ rF a k) := zn_app.symm
      have r1 : ∀ x : D, repD (1 : Int).toNat [x] = [x] := fun _ => rfl
      have r0 : ∀ x : D, repD (0 : Int).toNat [x] = [] := fun _ => rfl
      by_cases g : 1 < (rF a k).length
      · have g' : (1 : Int) < (((rF a k).length : Nat) : Int) := by omega
        have hp : pF (rF a k) = true := by
          unfold pF
          rw [hd, decide_eq_true e0, decide_eq_true g]
          rfl
        rw [hp, if_pos rfl] at rs
        have lc : ((((List.range k).map (rF a)).filter pF).map fB).length + 1 ≤ 100000 := by omega
        simp! [g1, fz, frzL_of fz, lf, g', r1, cf, frzL_of cf, lc]
        refine ⟨mt ++ rF a k, some (.int (k : Nat)), a4, a5, some (fB (rF a k)), ?_, nd2, hm2⟩
        rw [rs, zn_app]
        simp only [List.map_append]
        rfl
      · have g' : ¬ (1 : Int) < (((rF a k).length : Nat) : Int) := by omega
        have hp : pF (rF a k) = false := by
          unfold pF
          rw [decide_eq_false g]
          rfl
        rw [hp, if_neg (by decide), List.append_nil] at rs
        have lc : ((((List.range k).map (rF a)).filter pF).map fB).length ≤ 100000 := by omega
        simp! [g1, fz, frzL_of fz, lf, g', r0, cf, frzL_of cf, lc, List.append_nil, Nat.add_zero]
        refine ⟨mt ++ rF a k, some (.int (k : Nat)), a4, a5, some (fB (rF a k)), ?_, nd2, hm2⟩
        rw [rs, zz]
        rfl
  · rintro st ⟨mt, a1, a4, a5, a6, rfl, nd, hm⟩
    simp!
    rfl

theorem Bx.mono {n m : Nat} {d : D} (h : Bx n d) (hm : n ≤ m) : Bx m d := by
  obtain ⟨a, b, c, rfl, ha, hb, hb', hc, hc'⟩ := h.ex
  exact ⟨_, _, _, rfl, ha, hb, hb', hc, by omega⟩
theorem IsP.of {a : List Nat} {n : Nat} (p : a.Perm (List.range n)) : IsP a n :=
  ⟨by rw [p.length_eq, List.length_range], p.symm.nodup List.nodup_range, fun k hk => List.mem_range.mp (p.mem_iff.mp hk)⟩
def swN (c k : Nat) : Nat := if k + 1 < c ∨ k % 2 = 1 then k + 1 - 2 * (k % 2) else k
theorem swN_lt {c k : Nat} (h : k < c) : swN c k < c := by
  unfold swN
  split <;> omega
theorem swN_swN {c k : Nat} (h : k < c) : swN c (swN c k) = k := by
  unfold swN
  split
  · split <;> omega
  · rfl
theorem swN_isP {c : Nat} : IsP ((List.range c).map (swN c)) c := by
  refine ⟨by rw [List.length_map, List.length_range], ?_, fun k hk => ?_⟩
  · unfold List.Nodup
    rw [List.pairwise_map]
    refine List.Pairwise.imp_of_mem (fun {p q} hp hq hne e => ?_) List.nodup_range
    rw [List.mem_range] at hp hq
    apply hne
    rw [← swN_swN hp, ← swN_swN hq, e]
  · obtain ⟨p, hp, rfl⟩ := List.mem_map.mp hk
    exact swN_lt (List.mem_range.mp hp)
theorem zn_take {l : List Nat} {k : Nat} : (zn l).take k = zn (l.take k) := by unfold zn; rw [List.map_take]
theorem zn_drop {l : List Nat} {k : Nat} : (zn l).drop k = zn (l.drop k) := by unfold zn; rw [List.map_drop]
theorem zn_erase {l : List Nat} {k : Nat} : ((zn l).map D.int).eraseIdx k = (zn (l.eraseIdx k)).map D.int := by
  have key : ∀ {l : List Nat} {k : Nat}, ((zn l).map D.int).eraseIdx k = (zn (l.eraseIdx k)).map D.int := by
    intro l
    induction l with
    | nil => intro k; rfl
    | cons x r ih =>
      intro k
      cases k with
      | zero => rfl
      | succ k => exact congrArg (D.int (x : Int) :: ·) ih
  exact key
theorem erase_perm : ∀ {g : List Nat} {j : Nat} (h : j < g.length), (g[j] :: g.eraseIdx j).Perm g
  | _ :: _, 0, _ => List.Perm.refl _
  | x :: r, j + 1, h => by
    have h' : j < r.length := by simpa using h
    have ih := erase_perm (g := r) (j := j) h'
    show (r[j] :: x :: r.eraseIdx j).Perm (x :: r)
    exact (List.Perm.swap x r[j] _).trans (ih.cons x)
theorem shuf_ok {n : Nat} {d : D} {c : Nat} (h : Bx n d) (hn : n + 100 ≤ 2 ^ 40) (h0 : 0 < c) (hc : c ≤ 60) : ∃ (a : List Nat) (d' : D), P__law_shuffled [d, .int c] = .ok (.lst true ((zn a).map D.int)) [d'] ∧ IsP a c ∧ Bx (n + 61) d' := by
  suffices hs : Cw noC (P__law_shuffled [d, .int c]) fun e qs => ∃ (a : List Nat) (d' : D), e = .lst true ((zn a).map D.int) ∧ qs = [d'] ∧ IsP a c ∧ Bx (n + 61) d' by
    obtain ⟨e, qs, e1, a, d', rfl, rfl, h1, h2⟩ := Cw_ex hs
    exact ⟨a, d', e1, h1, h2⟩
  obtain ⟨r, d1, e1, a1, b1, h1⟩ := take_ok (top := 6) h (by omega) (by omega) (by omega)
  have z0 := h.nz
  have z1 := h1.nz
  have hb0 : ((c : Nat) : Int).natAbs < 4611686018427387904 := by omega
  have hb2 : c ≤ 100000 := by omega
  have hb3 : ((c : Nat) : Int).natAbs ≤ 100000 := by omega
  refine R__law_shuffled ?_
  unfold m__law_shuffled
  have rest : ¬ r = 0 → ¬ r = 1 → ¬ r = 2 → True := fun _ _ _ => trivial
  by_cases q0 : r = 0
  · simp! [e1, q0, hb0, hb2, hb3, irange_id]
    exact ⟨List.range c, d1, rfl, rfl, IsP.of (List.Perm.refl _), Bx.mono h1 (by omega)⟩
  · by_cases q1 : r = 1
    · subst q1
      have q1 : (1 : Int) = 1 := rfl
      have c1 : cutL ((zn (List.range c)).map D.int) (some 1) none = (zn ((List.range c).drop 1)).map D.int := by rw [cutL_map, show (1 : Int) = ((1 : Nat) : Int) from rfl, cut_from, zn_drop]
      have c2 : cutL ((zn (List.range c)).map D.int) none (some 1) = (zn ((List.range c).take 1)).map D.int := by rw [cutL_map, show (1 : Int) = ((1 : Nat) : Int) from rfl, cut_to, zn_take]
      have g1 : ((zn ((List.range c).drop 1)).map D.int).length + ((zn ((List.range c).take 1)).map D.int).length ≤ 100000 := by
        rw [List.length_map, List.length_map, zn_len, zn_len, List.length_drop, List.length_take, List.length_range]; omega
      simp! [e1, q0, q1, hb0, hb2, hb3, irange_id, c1, c2, g1]
      refine ⟨(List.range c).drop 1 ++ (List.range c).take 1, d1, by rw [zn_app, List.map_append], rfl, IsP.of ?_, Bx.mono h1 (by omega)⟩
      have := List.perm_append_comm (l₁ := (List.range c).drop 1) (l₂ := (List.range c).take 1)
      rw [List.take_append_drop] at this
      exact this
    · by_cases q2 : r = 2
      · subst q2
        have q2 : (2 : Int) = 2 := rfl
        have hb4 : ((zn (List.range c)).map D.int).length ≤ 100000 := by rw [List.length_map, zn_len, List.length_range]; omega
        simp! [e1, q0, q1, q2, hb0, hb2, hb3, irange_id, frz_ints', hb4]
        refine Wx_map1 (fun y => match y with | .int z => .int ((swN c z.toNat : Nat) : Int) | _ => .non) (fun y hy => ?_) ?_
        · obtain ⟨z, hz, rfl⟩ := List.mem_map.mp hy
          unfold zn at hz
          obtain ⟨k, hk, rfl⟩ := List.mem_map.mp hz
          rw [List.mem_range] at hk
          have m1 : mulOk 2 ((k % 2 : Nat) : Int) = true := mul_ok1 (by decide)
          have t2 : (2 : Int) ≠ 0 := by decide
          have f2 : Int.fmod (k : Int) 2 = ((k % 2 : Nat) : Int) := fmodN (m := 2)
          by_cases p1 : k + 1 < c
          · have p1' : (k : Int) + 1 < (c : Int) := by omega
            have e5 : ((swN c k : Nat) : Int) = (k : Int) + 1 - 2 * ((k % 2 : Nat) : Int) := by unfold swN; rw [if_pos (.inl p1)]; omega
            simp! [p1', t2, f2, m1, e5]
          · have p1' : ¬ (k : Int) + 1 < (c : Int) := by omega
            by_cases p2 : k % 2 = 1
            · have p2' : ((k % 2 : Nat) : Int) = 1 := by omega
              have e5 : ((swN c k : Nat) : Int) = (k : Int) + 1 - 2 * 1 := by unfold swN; rw [if_pos (.inr p2)]; omega
              have m2 : mulOk 2 1 = true := by decide
              simp! [p1', t2, f2, p2', m2, e5]
            · have p2' : ¬ ((k % 2 : Nat) : Int) = 1 := by omega
              have e5 : ((swN c k : Nat) : Int) = (k : Int) := by unfold swN; rw [if_neg (fun z => z.elim p1 p2)]
              simp! [p1', t2, f2, p2', e5]
        · have e6 : ((zn (List.range c)).map D.int).map (fun y => match y with | .int z => D.int ((swN c z.toNat : Nat) : Int) | _ => .non) = (zn ((List.range c).map (swN c))).map D.int := by
            unfold zn
            rw [List.map_map, List.map_map, List.map_map, List.map_map]
            rfl
          rw [e6]
          simp!
          exact ⟨_, d1, rfl, rfl, swN_isP, Bx.mono h1 (by omega)⟩
      · simp! [e1, q0, q1, q2, hb0, hb2, hb3, irange_id]
        refine Wx_ints (fun i st => ∃ (d : D) (f g : List Nat) (o3 : Option D), st = [some d, some (.int c), some (.lst true ((zn f).map D.int)), o3, some (.lst true ((zn g).map D.int)), some (.int r), none] ∧ Bx (n + 1 + i) d ∧ f.length = i ∧ (f ++ g).Perm (List.range c)) ⟨d1, [], List.range c, none, rfl, h1, rfl, List.Perm.refl _⟩ ?_ ?_
        · rintro i m st hm ⟨d, f, g, o3, rfl, hb, hf, hp⟩
          have hi : i < c := by
            have := (List.getElem?_eq_some_iff.mp hm).1
            rw [zn_len, List.length_range] at this
            exact this
          have hlen := hp.length_eq
          rw [List.length_append, List.length_range, hf] at hlen
          have hg : 0 < g.length := by omega
          have zd := hb.nz
          obtain ⟨r2, d2, e2, a2, b2, h2⟩ := take_ok (top := (g.length : Int)) hb (by omega) (by omega) (by omega)
          have zd2 := h2.nz
          obtain ⟨j, rfl⟩ := Int.eq_ofNat_of_zero_le a2
          have hj : j < g.length := by omega
          have el : ((((zn g).map D.int).length : Nat) : Int) = (g.length : Int) := by rw [List.length_map, zn_len]
          have ej : L2.ixN ((zn g).map D.int).length (j : Int) = some j := ixN_nat (by rw [List.length_map, zn_len]; exact hj)
          have eg : ((zn g).map D.int)[j]? = some (.int (g[j] : Nat)) := by
            unfold zn
            rw [List.getElem?_map, List.getElem?_map, List.getElem?_eq_getElem hj]
            rfl
          have hjb : ((j : Nat) : Int).natAbs < 1000000 := by omega
          have epop : fPopAt ((zn g).map D.int) (.int (j : Int)) = some ((zn (g.eraseIdx j)).map D.int, .int (g[j] : Nat)) := by
            rw [q_popAt frz_ints hjb, ej]
            show (match ((zn g).map D.int)[j]? with | some d => some (((zn g).map D.int).eraseIdx j, d) | none => none) = _
            rw [eg, zn_erase]
          have hfl : ((zn f).map D.int).length < 100000 := by rw [List.length_map, zn_len]; omega
          have ez : (zn f).map D.int ++ [D.int ((g[j] : Nat) : Int)] = (zn (f ++ [g[j]])).map D.int := zn_snoc.symm
          simp! [el, e2, epop, hfl, ez]
          refine ⟨d2, f ++ [g[j]], g.eraseIdx j, _, rfl, h2, by rw [List.length_append, hf]; rfl, ?_⟩
          rw [List.append_assoc]
          refine List.Perm.trans (List.Perm.append_left f ?_) hp
          exact erase_perm hj
        · rintro st ⟨d, f, g, o3, rfl, hb, hf, hp⟩
          rw [zn_len, List.length_range] at hb hf
          have hlen := hp.length_eq
          rw [List.length_append, List.length_range, hf] at hlen
          have hg : g = [] := List.length_eq_zero_iff.mp (by omega)
          subst hg
          rw [List.append_nil] at hp
          simp!
          exact ⟨f, d, rfl, rfl, IsP.of hp, Bx.mono hb (by omega)⟩

theorem ib1 : isB "int" "int" = true := by decide
theorem ib2 : isB "int" "bool" = false := by decide
theorem ib3 : isB "list" "list" = true := by decide

inductive El where
  | i (z : Int)
  | o (d : D)
def El.d : El → D
  | .i z => .int z
  | .o d => d
def oddE : List D := [.non, .bl true, .bl false, .str "0", .str "", .tup [.int 0], .lst false [.int 0]]
def El.ok (B : Nat) : El → Prop
  | .i z => z.natAbs ≤ B
  | .o d => d ∈ oddE
theorem El.ok.mono {B C : Nat} {x : El} (h : x.ok B) (hb : B ≤ C) : x.ok C := by
  cases x with
  | i z => exact Nat.le_trans h hb
  | o d => exact h
def El.num : El → Bool
  | .i _ => true
  | .o _ => false
theorem odd_ty {d : D} (h : d ∈ oddE) : frzd d = true ∧ plainD d = true ∧ dep d ≤ 2 ∧ ∃ t, tyOf d = some t ∧ (isB t "int" && !isB t "bool") = false := by
  unfold oddE at h
  simp only [List.mem_cons, List.not_mem_nil, or_false] at h
  rcases h with rfl | rfl | rfl | rfl | rfl | rfl | rfl
  · exact ⟨rfl, rfl, by decide, "NoneType", rfl, by decide⟩
  · exact ⟨rfl, rfl, by decide, "bool", rfl, by decide⟩
  · exact ⟨rfl, rfl, by decide, "bool", rfl, by decide⟩
  · exact ⟨rfl, by decide +kernel, by decide, "str", rfl, by decide⟩
  · exact ⟨rfl, by decide +kernel, by decide, "str", rfl, by decide⟩
  · exact ⟨rfl, rfl, by simp only [dep, depL]; omega, "tuple", rfl, by decide⟩
  · exact ⟨rfl, rfl, by simp only [dep, depL]; omega, "list", rfl, by decide⟩
theorem El.f {B : Nat} {x : El} (h : x.ok B) : frzd x.d = true ∧ plainD x.d = true ∧ dep x.d ≤ 2 := by
  cases x with
  | i z => exact ⟨rfl, rfl, by simp only [El.d, dep]; omega⟩
  | o d => exact ⟨(odd_ty h).1, (odd_ty h).2.1, (odd_ty h).2.2.1⟩
theorem els_f {B : Nat} {l : List El} (h : ∀ x ∈ l, x.ok B) : frzdL (l.map El.d) = true ∧ plainL (l.map El.d) = true ∧ depL (l.map El.d) ≤ 3 := by
  induction l with
  | nil => exact ⟨rfl, rfl, by simp only [List.map_nil, depL]; omega⟩
  | cons x l ih =>
    obtain ⟨h1, h2, h3⟩ := El.f (h x (.head _))
    obtain ⟨h4, h5, h6⟩ := ih fun y hy => h y (.tail _ hy)
    rw [List.map_cons]
    exact ⟨by simp only [frzdL, h1, h4, Bool.and_self], by simp only [plainL, h2, h5, Bool.and_self], by simp only [depL]; omega⟩
def El.pl (n : Nat) : El → Bool
  | .i z => decide (0 ≤ z ∧ z < (n : Int))
  | .o _ => false
theorem pl_ok {B n : Nat} {x : El} (h : x.ok B) : P_is_place [x.d, .int (n : Nat)] = .ok (.bl (x.pl n)) [] := by
  have ty_int : tyOf (.int 0) = some "int" := rfl
  refine Cw_eq (R_is_place ?_)
  unfold m_is_place
  cases x with
  | i z =>
    by_cases h1 : 0 ≤ z
    · by_cases h2 : z < (n : Int)
      · simp! [h1, h2, ib1, ib2, El.d, El.pl]
      · simp! [h1, h2, ib1, ib2, El.d, El.pl]
    · simp! [h1, ib1, ib2, El.d, El.pl]
  | o d =>
    obtain ⟨f, _, _, t, ht, hb⟩ := odd_ty h
    have i1 : isIn "int" = true := by decide
    have i2 : isIn "bool" = true := by decide
    have e1 : fIsi [d, .ty "int"] = some (.bl (isB t "int")) := by
      show (match tyOf d with | some t => if isIn "int" = true then some (D.bl (isB t "int")) else none | none => none) = _
      rw [ht]; exact if_pos i1
    have e2 : fIsi [d, .ty "bool"] = some (.bl (isB t "bool")) := by
      show (match tyOf d with | some t => if isIn "bool" = true then some (D.bl (isB t "bool")) else none | none => none) = _
      rw [ht]; exact if_pos i2
    have hd : El.d (.o d) = d := rfl
    have hp : El.pl n (.o d) = false := rfl
    rw [hd, hp]
    cases b1 : isB t "int" with
    | false =>
      rw [b1] at e1
      simp! [e1, f, frz_of f]
    | true =>
      rw [b1] at e1 hb
      have b2 : isB t "bool" = true := by simpa using hb
      rw [b2] at e2
      simp! [e1, e2, f, frz_of f]

def plD (n : Nat) : D → D
  | .int z => .bl (decide (0 ≤ z ∧ z < (n : Int)))
  | _ => .bl false
theorem plD_eq {B n : Nat} {x : El} (h : x.ok B) : plD n x.d = .bl (x.pl n) := by
  cases x with
  | i z => rfl
  | o d =>
    have h : d ∈ oddE := h
    unfold oddE at h
    simp only [List.mem_cons, List.not_mem_nil, or_false] at h
    rcases h with rfl | rfl | rfl | rfl | rfl | rfl | rfl <;> rfl
theorem plD_map {B n : Nat} {l : List El} (h : ∀ x ∈ l, x.ok B) : (l.map El.d).map (plD n) = (l.map (El.pl n)).map D.bl := by
  rw [List.map_map, List.map_map]
  exact List.map_congr_left fun x hx => plD_eq (h x hx)
theorem all_id {α : Type} {l : List α} {f : α → Bool} : (l.map f).all id = l.all f := by rw [List.all_map]; rfl
def isO (l : List El) : Prop := ∃ a : List Nat, l = a.map (fun k : Nat => El.i (k : Int)) ∧ a ≠ [] ∧ IsP a a.length
theorem isort_isP {a : List Nat} : isort (zn a) = zn (List.range a.length) ↔ IsP a a.length := by
  constructor
  · intro h
    have p : (zn (List.range a.length)).Perm (zn a) := by rw [← h]; exact isort_perm
    have inj : ∀ {x y : List Nat}, (zn x).Perm (zn y) → x.Perm y := fun {x y} q => by
      have := q.map Int.toNat
      unfold zn at this
      rw [List.map_map, List.map_map] at this
      have e : (Int.toNat ∘ fun (k : Nat) => (k : Int)) = id := funext fun k => Int.toNat_natCast k
      rw [e, List.map_id, List.map_id] at this
      exact this
    exact IsP.of (inj p).symm
  · intro h
    have p : a.Perm (List.range a.length) := by
      refine List.perm_iff_count.mpr fun k => ?_
      by_cases c : k < a.length
      · have h1 : k ∈ a := IsP.onto h c
        rw [List.Nodup.count h.nd, List.Nodup.count List.nodup_range, if_pos h1, if_pos (List.mem_range.mpr c)]
      · rw [List.count_eq_zero.mpr fun q => c (h.lt k q), List.count_eq_zero.mpr fun q => c (List.mem_range.mp q)]
    refine isort_eq ?_ ?_
    · unfold zn
      refine List.pairwise_map.mpr ?_
      exact List.Pairwise.imp (fun {x y} (h : x < y) => by omega) List.pairwise_lt_range
    · unfold zn
      exact (p.symm.map _)
theorem all_pl {n : Nat} : ∀ {l : List El}, l.all (El.pl n) = true → ∃ a : List Nat, l = a.map (fun k : Nat => El.i (k : Int)) ∧ ∀ k ∈ a, k < n
  | [], _ => ⟨[], rfl, fun k h => nomatch h⟩
  | .o d :: l, h => by simp [El.pl] at h
  | .i z :: l, h => by
    rw [List.all_cons, Bool.and_eq_true] at h
    obtain ⟨a, rfl, h2⟩ := all_pl h.2
    have hz : 0 ≤ z ∧ z < (n : Int) := by simpa [El.pl] using h.1
    obtain ⟨k, rfl⟩ := Int.eq_ofNat_of_zero_le hz.1
    refine ⟨k :: a, rfl, fun j hj => ?_⟩
    rcases List.mem_cons.mp hj with rfl | hj
    · omega
    · exact h2 j hj
theorem nat_els {a : List Nat} : (a.map (fun k : Nat => El.i (k : Int))).map El.d = (zn a).map D.int := by
  unfold zn; rw [List.map_map, List.map_map]; rfl
theorem isO_all {l : List El} (h : isO l) : l.all (El.pl l.length) = true := by
  obtain ⟨a, rfl, _, hp⟩ := h
  rw [List.length_map]
  refine List.all_eq_true.mpr fun x hx => ?_
  obtain ⟨k, hk, rfl⟩ := List.mem_map.mp hx
  have := hp.lt k hk
  simp only [El.pl, decide_eq_true_eq]
  omega
open Classical in
theorem order_row {B : Nat} {l : List El} (h : ∀ x ∈ l, x.ok B) (hl : l.length ≤ 200) : P_is_order [.lst false (l.map El.d)] = .ok (.bl (decide (isO l))) [] := by
  obtain ⟨f, _, _⟩ := els_f h
  have lN : (l.map El.d).length = l.length := List.length_map ..
  refine Cw_eq (R_is_order ?_)
  unfold m_is_order
  by_cases h0 : (l.length : Int) = 0
  · have hn : ¬ isO l := by
      rintro ⟨a, rfl, ha, _⟩
      rw [List.length_map] at h0
      exact ha (List.eq_nil_of_length_eq_zero (by omega))
    rw [decide_eq_false hn]
    simp! [f, frzL_of f, ib3, lN, h0]
  · have hb1 : (l.map El.d).length ≤ 100000 := by omega
    simp! [f, frzL_of f, ib3, lN, h0, hb1]
    refine Wx_map1 (plD l.length) (fun y hy => ?_) ?_
    · obtain ⟨x, hx, rfl⟩ := List.mem_map.mp hy
      have e := pl_ok (n := l.length) (h x hx)
      have fx := (El.f (h x hx)).1
      rw [plD_eq (h x hx)]
      simp! [f, frzL_of f, lN, e, fx, frz_of fx]
    · rw [plD_map h]
      have ea : fAll [.lst true ((l.map (El.pl l.length)).map D.bl)] = some (.bl (l.all (El.pl l.length))) := by rw [f_all, all_id]
      cases c : l.all (El.pl l.length) with
      | false =>
        rw [c] at ea
        have hn : ¬ isO l := fun q => by rw [isO_all q] at c; cases c
        rw [decide_eq_false hn]
        simp! [f, frzL_of f, ea]
      | true =>
        rw [c] at ea
        obtain ⟨a, rfl, ha⟩ := all_pl c
        have e1 := nat_els (a := a)
        rw [List.length_map] at *
        have e3 : irange 0 a.length = (zn (List.range a.length)).map D.int := irange_id
        have hb3 : ((a.length : Nat) : Int).natAbs ≤ 100000 := by omega
        have e5 : fEq [.lst true ((isort (zn a)).map D.int), .lst true ((zn (List.range a.length)).map D.int)] = some (.bl (decide (isO (a.map (fun k : Nat => El.i (k : Int)))))) := by
          rw [eq_intsL]
          congr 2
          refine decide_eq_decide.mpr ?_
          rw [isort_isP]
          constructor
          · intro q
            exact ⟨a, rfl, fun z => h0 (by rw [z]; rfl), q⟩
          · rintro ⟨b, eb, _, q⟩
            have : a = b := by
              have := congrArg (List.map fun x : El => match x with | .i z => z.toNat | .o _ => 0) eb
              rw [List.map_map, List.map_map] at this
              have e : ((fun x : El => match x with | .i z => z.toNat | .o _ => 0) ∘ fun k : Nat => El.i (k : Int)) = id := funext fun k => Int.toNat_natCast k
              rw [e, List.map_id, List.map_id] at this
              exact this
            rw [this]; exact q
        have lZ : ((zn a).map D.int).length = a.length := by rw [List.length_map, zn_len]
        rw [e1] at *
        simp! [frz_ints', ea, lZ, hb3, e3, e5]

theorem nat_mem {ks : List Nat} {y : D} (h : y ∈ (zn ks).map D.int) : ∃ k ∈ ks, y = .int (k : Int) := by
  obtain ⟨z, hz, rfl⟩ := List.mem_map.mp h
  unfold zn at hz
  obtain ⟨k, hk, rfl⟩ := List.mem_map.mp hz
  exact ⟨k, hk, rfl⟩

theorem eq_nil {o o' : Bool} {xs : List D} (p : plainL xs = true) (h : depL xs ≤ 60) : fEq [.lst o xs, .lst o' []] = some (.bl (decide (xs = []))) := by
  have h1 : eqOk (.lst o xs) (.lst o' []) = true := by
    have h2 : depL xs + 1 ≤ 64 := by omega
    simp [eqOk, plainD, p, plainL, dep, depL, h2]
  have e1 : eqD (.lst o xs) (.lst o' []) = decide (xs = []) := by
    cases xs with
    | nil => rfl
    | cons a r =>
      rw [decide_eq_false (by simp)]
      rfl
  show (if eqOk _ _ = true then some (D.bl (eqD _ _)) else none) = _
  rw [if_pos h1, e1]
def numD : D → D
  | .int _ => .bl true
  | _ => .bl false
theorem numD_eq {B : Nat} {x : El} (h : x.ok B) : numD x.d = .bl x.num := by
  cases x with
  | i z => rfl
  | o d =>
    have h : d ∈ oddE := h
    unfold oddE at h
    simp only [List.mem_cons, List.not_mem_nil, or_false] at h
    rcases h with rfl | rfl | rfl | rfl | rfl | rfl | rfl <;> rfl
theorem numD_map {B : Nat} {l : List El} (h : ∀ x ∈ l, x.ok B) : (l.map El.d).map numD = (l.map El.num).map D.bl := by
  rw [List.map_map, List.map_map]
  exact List.map_congr_left fun x hx => numD_eq (h x hx)
theorem all_num : ∀ {l : List El}, l.all El.num = true → ∃ zs : List Int, l = zs.map El.i
  | [], _ => ⟨[], rfl⟩
  | .o d :: l, h => by simp [El.num] at h
  | .i z :: l, h => by
    rw [List.all_cons, Bool.and_eq_true] at h
    obtain ⟨a, rfl⟩ := all_num h.2
    exact ⟨z :: a, rfl⟩
theorem int_els {zs : List Int} : (zs.map El.i).map El.d = zs.map D.int := by rw [List.map_map]; rfl
def cntD (zs : List Int) : D → D
  | .int k => .bl (decide (((zs.count k : Nat) : Int) = 1))
  | _ => .bl false
theorem sub_lenZ : ∀ {a b : List Int}, a.Nodup → (∀ x ∈ a, x ∈ b) → a.length ≤ b.length
  | [], b, _, _ => Nat.zero_le _
  | x :: a, b, hn, hs => by
    obtain ⟨h1, h2⟩ := List.nodup_cons.mp hn
    have hx := hs x (.head _)
    have := sub_lenZ (a := a) (b := b.erase x) h2 fun y hy => by
      have hne : y ≠ x := fun e => h1 (by rw [← e]; exact hy)
      exact (List.mem_erase_of_ne hne).mpr (hs y (.tail _ hy))
    rw [List.length_erase_of_mem hx] at this
    have hl := List.length_pos_of_mem hx
    rw [List.length_cons]
    omega
theorem zn_nd {a : List Nat} (h : a.Nodup) : (zn a).Nodup := by
  unfold zn
  exact List.Pairwise.map _ (fun x y (q : x ≠ y) e => q (by omega)) h
theorem isO_ints {zs : List Int} (h0 : zs ≠ []) : isO (zs.map El.i) ↔ ∀ k : Nat, k < zs.length → zs.count (k : Int) = 1 := by
  constructor
  · rintro ⟨a, ea, _, hp⟩ k hk
    have e : zs = zn a := by
      have := congrArg (List.map fun x : El => match x with | .i z => z | .o _ => 0) ea
      rw [List.map_map, List.map_map] at this
      have e : ((fun x : El => match x with | .i z => z | .o _ => 0) ∘ El.i) = id := rfl
      rw [e, List.map_id] at this
      exact this
    rw [e, zn_len] at hk
    rw [e, List.Nodup.count (zn_nd hp.nd), if_pos]
    unfold zn
    exact List.mem_map.mpr ⟨k, hp.onto hk, rfl⟩
  · intro h
    have hin : ∀ k : Nat, k < zs.length → (k : Int) ∈ zs := fun k hk => List.count_pos_iff.mp (by rw [h k hk]; omega)
    have hz : ∀ z ∈ zs, 0 ≤ z ∧ z < (zs.length : Int) := fun z hz => by
      refine Classical.byContradiction fun c => ?_
      have := sub_lenZ (a := z :: zn (List.range zs.length)) (b := zs) (List.nodup_cons.mpr ⟨fun q => by
        unfold zn at q
        obtain ⟨k, hk, rfl⟩ := List.mem_map.mp q
        have := List.mem_range.mp hk
        exact c ⟨by omega, by omega⟩, zn_nd List.nodup_range⟩) fun x hx => by
          rcases List.mem_cons.mp hx with rfl | hx
          · exact hz
          · unfold zn at hx
            obtain ⟨k, hk, rfl⟩ := List.mem_map.mp hx
            exact hin k (List.mem_range.mp hk)
      rw [List.length_cons, zn_len, List.length_range] at this
      omega
    have ez : zs = zn (zs.map Int.toNat) := by
      unfold zn
      rw [List.map_map]
      conv => lhs; rw [← List.map_id zs]
      refine List.map_congr_left fun z hz' => ?_
      have := (hz z hz').1
      show z = ((z.toNat : Nat) : Int)
      omega
    refine ⟨zs.map Int.toNat, ?_, fun q => h0 (List.map_eq_nil_iff.mp q), rfl, ?_, fun k hk => ?_⟩
    · conv => lhs; rw [ez]
      unfold zn
      rw [List.map_map]; rfl
    · refine List.nodup_iff_count.mpr fun k => ?_
      by_cases c : k < zs.length
      · have h1 := h k c
        rw [ez] at h1
        have : (zn (zs.map Int.toNat)).count (k : Int) = (zs.map Int.toNat).count k := by
          unfold zn List.count
          rw [List.countP_map]
          refine List.countP_congr fun x _ => ?_
          show ((x : Int) == (k : Int)) = true ↔ (x == k) = true
          rw [beq_iff_eq, beq_iff_eq]
          omega
        rw [this] at h1
        omega
      · rw [List.count_eq_zero.mpr]
        · omega
        · intro q
          obtain ⟨z, hz1, rfl⟩ := List.mem_map.mp q
          have := hz z hz1
          omega
    · obtain ⟨z, hz1, rfl⟩ := List.mem_map.mp hk
      have := hz z hz1
      rw [List.length_map]
      omega
open Classical in
theorem isit_row {B : Nat} {l : List El} (h : ∀ x ∈ l, x.ok B) (hl : l.length ≤ 200) : P__law_is_it [.lst false (l.map El.d)] = .ok (.bl (decide (isO l))) [] := by
  obtain ⟨f, p, dp⟩ := els_f h
  have lN : (l.map El.d).length = l.length := List.length_map ..
  have en := eq_nil (o := false) (o' := true) p (by omega)
  refine Cw_eq (R__law_is_it ?_)
  unfold m__law_is_it
  by_cases h0 : l = []
  · have hn : ¬ isO l := by
      rintro ⟨a, ea, ha, _⟩
      rw [h0] at ea
      exact ha (List.map_eq_nil_iff.mp ea.symm)
    rw [decide_eq_true (by rw [h0]; rfl)] at en
    rw [decide_eq_false hn]
    simp! [f, frzL_of f, ib3, en]
  · rw [decide_eq_false (fun q => h0 (List.map_eq_nil_iff.mp q))] at en
    have hb1 : (l.map El.d).length ≤ 100000 := by omega
    simp! [f, frzL_of f, ib3, en, hb1]
    refine Wx_map1 numD (fun y hy => ?_) ?_
    · obtain ⟨x, hx, rfl⟩ := List.mem_map.mp hy
      rw [numD_eq (h x hx)]
      have hx := h x hx
      have fx := (El.f hx).1
      cases x with
      | i z => simp! [El.d, El.num, ib1, ib2]
      | o d =>
        obtain ⟨fd, _, _, t, ht, hb⟩ := odd_ty hx
        have e1 : fIsi [d, .ty "int"] = some (.bl (isB t "int")) := by
          show (match tyOf d with | some t => if isIn "int" = true then some (D.bl (isB t "int")) else none | none => none) = _
          rw [ht]; exact if_pos (by decide)
        have e2 : fIsi [d, .ty "bool"] = some (.bl (isB t "bool")) := by
          show (match tyOf d with | some t => if isIn "bool" = true then some (D.bl (isB t "bool")) else none | none => none) = _
          rw [ht]; exact if_pos (by decide)
        have hd : El.d (.o d) = d := rfl
        have hp : El.num (.o d) = false := rfl
        rw [hd, hp]
        cases b1 : isB t "int" with
        | false =>
          rw [b1] at e1
          simp! [e1, fd, frz_of fd]
        | true =>
          rw [b1] at e1 hb
          have b2 : isB t "bool" = true := by simpa using hb
          rw [b2] at e2
          simp! [e1, e2, fd, frz_of fd]
    · rw [numD_map h]
      have ea : fAll [.lst true ((l.map El.num).map D.bl)] = some (.bl (l.all El.num)) := by rw [f_all, all_id]
      cases c : l.all El.num with
      | false =>
        rw [c] at ea
        have hn : ¬ isO l := by
          rintro ⟨a, rfl, _, _⟩
          rw [List.all_map] at c
          have : a.all (El.num ∘ fun k : Nat => El.i (k : Int)) = true := List.all_eq_true.mpr fun x _ => rfl
          rw [this] at c; cases c
        rw [decide_eq_false hn]
        simp! [f, frzL_of f, ea]
      | true =>
        rw [c] at ea
        obtain ⟨zs, rfl⟩ := all_num c
        have hz0 : zs ≠ [] := fun q => h0 (by rw [q]; rfl)
        have e1 := int_els (zs := zs)
        have lZ : (zs.map D.int).length = zs.length := List.length_map ..
        have hN : ((zs.length : Nat) : Int).natAbs < 4611686018427387904 := by
          have := hl
          rw [List.length_map] at this
          omega
        have hN2 : zs.length ≤ 100000 := by
          have := hl
          rw [List.length_map] at this
          omega
        rw [e1] at *
        simp! [frz_ints', ea, lZ, hN, hN2]
        refine Wx_map1 (cntD zs) (fun y hy => ?_) ?_
        · rw [irange_id] at hy
          obtain ⟨k, _, rfl⟩ := nat_mem hy
          have ec := q_count (o := false) (ns := zs) (k := (k : Int))
          show Wg _ _
          simp! [frz_ints', ec, cntD]
        · rw [irange_id]
          have em : ((zn (List.range zs.length)).map D.int).map (cntD zs) = ((List.range zs.length).map fun k : Nat => decide (((zs.count (k : Int) : Nat) : Int) = 1)).map D.bl := by
            unfold zn
            rw [List.map_map, List.map_map, List.map_map]; rfl
          rw [em]
          have ef : fAll [.lst true (((List.range zs.length).map fun k : Nat => decide (((zs.count (k : Int) : Nat) : Int) = 1)).map D.bl)] = some (.bl (decide (isO (zs.map El.i)))) := by
            rw [f_all, all_id]
            congr 2
            by_cases q : isO (zs.map El.i)
            · rw [decide_eq_true q]
              refine List.all_eq_true.mpr fun k hk => ?_
              have := (isO_ints hz0).mp q k (List.mem_range.mp hk)
              rw [decide_eq_true_eq]; omega
            · rw [decide_eq_false q]
              cases z : (List.range zs.length).all fun k : Nat => decide (((zs.count (k : Int) : Nat) : Int) = 1) with
              | false => rfl
              | true =>
                refine absurd ((isO_ints hz0).mpr fun k hk => ?_) q
                have := List.all_eq_true.mp z k (List.mem_range.mpr hk)
                rw [decide_eq_true_eq] at this
                omega
          simp! [ef]

theorem pick_ok {n : Nat} {d : D} {o : Bool} {xs : List D} (h : Bx n d) (hn : n ≤ 2 ^ 40) (h0 : xs ≠ []) (h1 : xs.length < 100000) (hf : frzdL xs = true) : ∃ (i : Nat) (x d' : D), P__law_pick [d, .lst o xs] = .ok x [d'] ∧ xs[i]? = some x ∧ Bx (n + 1) d' := by
  have hl : 0 < xs.length := List.length_pos_iff.mpr h0
  obtain ⟨r, d', e, h2, h3, h4⟩ := take_ok (top := (xs.length : Int)) h hn (by omega) (by omega)
  obtain ⟨j, rfl⟩ := Int.eq_ofNat_of_zero_le h2
  have hj : j < xs.length := by omega
  refine ⟨j, xs[j], d', ?_, List.getElem?_eq_getElem hj, h4⟩
  have z : frzd xs[j] = true := frzdL_get hf (List.getElem?_eq_getElem hj)
  simp [P__law_pick_eq, runDef, m__law_pick, SV.start, backs, atI_pos, e, hj, z, frz_of z]

noncomputable def bnE : M Fl :=
  (sSeq (sRet (eIf (tB (e2 fNe (oV (eFz 3)) (oV (eLst aNil)))) (eFz 3) (eLst (aCons (oV (eC (.int 0))) aNil))))
  sNil)
noncomputable def bnT : M Fl :=
  (sSeq (sIf (tB (e2 fLt (oS 5) (oV (eC (.int 2))))) (sSeq (sSub 3 (oS 4) (eCall [true, false] P__law_pick (aCons (oS 0) (aCons (oS 2) aNil))))
  sNil) (sSeq (sIf (tB (e2 fEq (oS 5) (oV (eC (.int 2))))) (sSeq (sSub 3 (oS 4) (eIf (tTr (oV (opS fIsi (aCons (oV (eIx (oS 3) (oS 4))) (aCons (oV (eC (.ty "int"))) aNil))))) (e2A gAddX (oV (eIx (oS 3) (oS 4))) (oV (eIx (oV (eLst (aCons (oV (eC (.int 1))) (aCons (oV (eNeg (eC (.int 1)))) aNil)))) (oV (eCall [true, false] P__law_take (aCons (oS 0) (aCons (oV (eC (.int 2))) aNil))))))) (eC (.int 0))))
  sNil) (sSeq (sIf (tB (e2 fEq (oS 5) (oV (eC (.int 3))))) (sSeq (sEx (eInsF 3 (aCons (oV (eCall [true, false] P__law_take (aCons (oS 0) (aCons (oV (e2 fAdd (oV (opS fLen (aCons (oS 3) aNil))) (oV (eC (.int 1))))) aNil)))) (aCons (oV (eCall [true, false] P__law_pick (aCons (oS 0) (aCons (oV (e2A gAddX (oS 2) (oV (eLst (aCons (oV (eIx (oS 3) (oS 4))) aNil))))) aNil)))) aNil))))
  sNil) (sSeq (sIf (tB (e2 fEq (oS 5) (oV (eC (.int 4))))) (sSeq (sEx (eM2 3 fPopAt (eN 4)))
  sNil) (sSeq (sIf (tB (e2 fEq (oS 5) (oV (eC (.int 5))))) (sSeq (sSet 6 (eFr (eCall [true, false] P__law_take (aCons (oS 0) (aCons (oV (opS fLen (aCons (oS 3) aNil))) aNil)))))
  (sSeq (sSwap 3 (oS 4) (oS 6) (eTup (aCons (oV (eIx (oS 3) (oS 6))) (aCons (oV (eIx (oS 3) (oS 4))) aNil))))
  sNil)) (sSeq (sIf (tB (e2 fEq (oS 5) (oV (eC (.int 6))))) (sSeq (sSub 3 (oS 4) (eIx (oS 3) (oV (eCall [true, false] P__law_take (aCons (oS 0) (aCons (oV (opS fLen (aCons (oS 3) aNil))) aNil))))))
  sNil) (sSeq (sRet (opA gTuple (aCons (oS 3) aNil)))
  sNil))
  sNil))
  sNil))
  sNil))
  sNil))
  sNil))
  bnE)
theorem cut__law_bent : m__law_bent =
  (sSeq (sPar [3, 4, 5] (aCons (oV (opA gList (aCons (oS 1) aNil))) (aCons (oV (eFr (eCall [true, false] P__law_take (aCons (oS 0) (aCons (oV (opS fLen (aCons (oS 1) aNil))) aNil))))) (aCons (oV (eFr (eCall [true, false] P__law_take (aCons (oS 0) (aCons (oV (eC (.int 8))) aNil))))) aNil))))
  (sSeq (sSet 2 (eFr (eLst (aCons (oV (eC .non)) (aCons (oV (eC (.bl true))) (aCons (oV (eC (.bl false))) (aCons (oV (eNeg (eC (.int 1)))) (aCons (oV (opS fLen (aCons (oS 3) aNil))) (aCons (oV (eC (.str "0"))) (aCons (oV (eTup (aCons (oV (eC (.int 0))) aNil))) (aCons (oV (eLst (aCons (oV (eC (.int 0))) aNil))) (aCons (oV (eC (.int 0))) (aCons (oV (e2 fSub (oV (eC (.int 0))) (oV (opS fLen (aCons (oS 3) aNil))))) (aCons (oV (eC (.str ""))) aNil))))))))))))))
  bnT)) := (rfl)

theorem takeN {n T : Nat} {d : D} (h : Bx n d) (hn : n ≤ 2 ^ 40) (h1 : 1 ≤ T) (h2 : T ≤ 1000) : ∃ (r : Nat) (d' : D), P__law_take [d, .int (T : Nat)] = .ok (.int (r : Nat)) [d'] ∧ r < T ∧ Bx (n + 1) d' := by
  obtain ⟨r, d', e, h0, h1, b⟩ := take_ok (top := (T : Int)) h hn (by omega) (by omega)
  obtain ⟨k, rfl⟩ : ∃ k : Nat, r = (k : Int) := ⟨r.toNat, by omega⟩
  exact ⟨k, d', e, by omega, b⟩
def oddW (L : Nat) : List El := [.o .non, .o (.bl true), .o (.bl false), .i (-1), .i (L : Int), .o (.str "0"), .o (.tup [.int 0]), .o (.lst false [.int 0]), .i 0, .i (0 - (L : Int)), .o (.str "")]
theorem oddW_ok {L B : Nat} (h : L ≤ B) (h1 : 1 ≤ B) : ∀ x ∈ oddW L, x.ok B := by
  intro x hx
  unfold oddW at hx
  simp only [List.mem_cons, List.not_mem_nil, or_false] at hx
  have ho : ∀ {d : D}, d ∈ oddE → (El.o d).ok B := fun h => h
  rcases hx with rfl | rfl | rfl | rfl | rfl | rfl | rfl | rfl | rfl | rfl | rfl
  · exact ho (by simp [oddE])
  · exact ho (by simp [oddE])
  · exact ho (by simp [oddE])
  · show (-1 : Int).natAbs ≤ B; omega
  · show (L : Int).natAbs ≤ B; omega
  · exact ho (by simp [oddE])
  · exact ho (by simp [oddE])
  · exact ho (by simp [oddE])
  · show (0 : Int).natAbs ≤ B; omega
  · show (0 - (L : Int)).natAbs ≤ B; omega
  · exact ho (by simp [oddE])
theorem pickE {n B : Nat} {d : D} {l : List El} (hb : Bx n d) (hn : n ≤ 2 ^ 39) (h0 : l ≠ []) (hl : l.length ≤ 1000) (h : ∀ x ∈ l, x.ok B) : ∃ (x : El) (d' : D), P__law_pick [d, .lst false (l.map El.d)] = .ok x.d [d'] ∧ x.ok B ∧ x ∈ l ∧ Bx (n + 1) d' := by
  obtain ⟨i, x, d', e, hx, b⟩ := pick_ok (o := false) (xs := l.map El.d) hb (by omega) (fun q => h0 (List.map_eq_nil_iff.mp q)) (by rw [List.length_map]; omega) (els_f h).1
  rw [List.getElem?_map] at hx
  cases q : l[i]? with
  | none => rw [q] at hx; cases hx
  | some y =>
    rw [q] at hx
    cases hx
    have hy := List.mem_of_getElem? q
    exact ⟨y, d', e, h y hy, hy, b⟩
def outB (o : Bool) (l : List El) : D := if o then .lst false (l.map El.d) else .tup (l.map El.d)
theorem el_at {l : List El} {k : Nat} (h : k < l.length) : L2.atI (l.map El.d) (k : Int) = some l[k].d := by
  rw [atI_pos, List.getElem?_map, List.getElem?_eq_getElem h]; rfl
theorem el_set {l : List El} {k : Nat} {x : El} : (l.map El.d).set k x.d = (l.set k x).map El.d := by rw [List.map_set]
theorem set_ok {B C : Nat} {l : List El} {k : Nat} {x : El} (h : ∀ y ∈ l, y.ok B) (hx : x.ok C) (hb : B ≤ C) : ∀ y ∈ l.set k x, y.ok C := fun y hy => by
  rcases List.mem_or_eq_of_mem_set hy with q | rfl
  · exact (h y q).mono hb
  · exact hx
theorem bnE_ok {n m B M : Nat} {d : D} {l : List El} {a1 a2 a4 a5 a6 : Option D} (h : ∀ x ∈ l, x.ok B) (hB : 1 ≤ B) (ll : l.length ≤ M) (hb : Bx m d) (hm : m ≤ n) (hM : 1 ≤ M := by omega) : Wx noE (bnE [some d, a1, a2, some (.lst true (l.map El.d)), a4, a5, a6]) (fin [true, false] (fun x ds => ∃ (o : Bool) (l' : List El) (d' : D), frz x = outB o l' ∧ ds = [d'] ∧ l' ≠ [] ∧ l'.length ≤ M ∧ (∀ x ∈ l', x.ok B) ∧ Bx n d')) := by
  obtain ⟨f, p, dp⟩ := els_f h
  have en := eq_nil (o := false) (o' := true) p (by omega)
  have hE : eqOk (.lst false (l.map El.d)) (.lst true []) = true := by
    have h2 : depL (l.map El.d) + 1 ≤ 64 := by omega
    simp [eqOk, plainD, p, plainL, dep, depL, h2]
  have ne : fNe [.lst false (l.map El.d), .lst true []] = some (.bl (!decide (l.map El.d = []))) := by
    have e1 : fEq [.lst false (l.map El.d), .lst true []] = some (.bl (eqD (.lst false (l.map El.d)) (.lst true []))) := by
      show (if eqOk _ _ = true then some (D.bl (eqD _ _)) else none) = _
      rw [if_pos hE]
    rw [e1] at en
    have e2 : eqD (.lst false (l.map El.d)) (.lst true []) = decide (l.map El.d = []) := by
      have := Option.some.inj en
      exact D.bl.inj this
    show (if eqOk _ _ = true then some (D.bl (!eqD _ _)) else none) = _
    rw [if_pos hE, e2]
  unfold bnE
  by_cases c : l = []
  · rw [decide_eq_true (by rw [c]; rfl)] at ne
    simp! [ne, f, frzL_of f]
    exact ⟨true, [.i 0], d, (by first | rfl | (simp only [SV.frz, frzL]; rfl)), rfl, by simp, by simpa using hM, fun x hx => by
      rw [List.mem_singleton.mp hx]; show (0 : Int).natAbs ≤ B; omega, Bx.mono hb hm⟩
  · rw [decide_eq_false (fun q => c (List.map_eq_nil_iff.mp q))] at ne
    simp! [ne, f, frzL_of f]
    exact ⟨true, l, d, (by first | rfl | (simp only [SV.frz, frzL_of f]; rfl)), rfl, c, ll, h, Bx.mono hb hm⟩

theorem ixN_at {n k : Nat} (h : k < n) : L2.ixN n (k : Int) = some k := by
  unfold L2.ixN
  simp only [Int.toNat_natCast]
  rw [if_pos (by omega), if_pos (by omega)]
theorem el_erase {k : Nat} : ∀ {l : List El} {j : Nat}, (l.map El.d).eraseIdx j = (l.eraseIdx j).map El.d
  | [], _ => rfl
  | a :: l, 0 => rfl
  | a :: l, j + 1 => by
    rw [List.map_cons, List.eraseIdx_cons_succ, List.eraseIdx_cons_succ, List.map_cons, el_erase (k := k)]
theorem bent_ok {n B M : Nat} {d : D} {l : List El} (hb : Bx n d) (hn : n ≤ 2 ^ 38) (h0 : l ≠ []) (ll : l.length ≤ M) (h : ∀ x ∈ l, x.ok B) (hB : 64 ≤ B) (hM : M ≤ 63) : ∃ (x : D) (o : Bool) (l' : List El) (d' : D), P__law_bent [d, .lst false (l.map El.d)] = .ok x [d'] ∧ frz x = outB o l' ∧ l' ≠ [] ∧ l'.length ≤ M + 1 ∧ (∀ x ∈ l', x.ok (B + 1)) ∧ Bx (n + 8) d' := by
  suffices q : Cw noC (P__law_bent [d, .lst false (l.map El.d)]) (fun x ds => ∃ (o : Bool) (l' : List El) (d' : D), frz x = outB o l' ∧ ds = [d'] ∧ l' ≠ [] ∧ l'.length ≤ M + 1 ∧ (∀ x ∈ l', x.ok (B + 1)) ∧ Bx (n + 8) d') by
    obtain ⟨x, ds, e, o, l', d', h1, rfl, h2⟩ := Cw_ex q
    exact ⟨x, o, l', d', e, h1, h2⟩
  have l1 : 1 ≤ l.length := List.length_pos_iff.mpr h0
  obtain ⟨k, d1, e1, hk, b1⟩ := takeN (T := l.length) hb (by omega) l1 (by omega)
  have z1 := b1.nz
  obtain ⟨w, d2, e2, hw, b2⟩ := takeN (T := 8) b1 (by omega) (by omega) (by omega)
  have z2 := b2.nz
  have e2 : P__law_take [d1, .int 8] = .ok (.int (w : Nat)) [d2] := e2
  obtain ⟨f, p, dp⟩ := els_f h
  have lN : (l.map El.d).length = l.length := List.length_map ..
  have hb1 : (l.map El.d).length ≤ 100000 := by omega
  have hb2 : l.length ≤ 100000 := by omega
  have ok2 := oddW_ok (L := l.length) (B := B) (by omega) (by omega)
  have fo := (els_f ok2).1
  have eo : [D.non, .bl true, .bl false, .int (-1), .int (l.length : Nat), .str "0", .tup [.int 0], .lst false [.int 0], .int 0, .int (0 - (l.length : Int)), .str ""] = (oddW l.length).map El.d := rfl
  have ix := ixN_at (n := l.length) hk
  have gl : gList [.lst false (l.map El.d)] = some (.lst true (l.map El.d)) := by
    show (if _ then _ else _) = _
    rw [if_pos hb1]
  refine R__law_bent ?_
  rw [cut__law_bent]
  simp! [f, frzL_of f, lN, hb1, hb2, gl, e1, z1, e2, z2, frzL, SV.frz, frzdL, frzd]
  rw [eo]
  generalize hO : (oddW l.length).map El.d = O at *
  unfold bnT
  rcases (show w < 2 ∨ w = 2 ∨ w = 3 ∨ w = 4 ∨ w = 5 ∨ w = 6 ∨ w = 7 by omega) with c | rfl | rfl | rfl | rfl | rfl | rfl
  · obtain ⟨x, d3, e3, hx, _, b3⟩ := pickE (l := oddW l.length) b2 (by omega) (by simp [oddW]) (by simp [oddW]) ok2
    rw [hO] at e3
    have z3 := b3.nz
    have c : (w : Int) < 2 := by omega
    have fx := (El.f hx).1
    simp! [c, e3, z3, fo, frzL_of fo, fx, frz_of fx, lN, ix]
    rw [el_set]
    exact bnE_ok (set_ok h (hx.mono (Nat.le_succ B)) (Nat.le_succ B)) (by omega) (by rw [List.length_set]; omega) b3 (by omega)
  · have n0 : ¬ ((2 : Nat) : Int) < 2 := by decide
    have n0p : ¬ (2 : Int) < 2 := by decide
    have n2 : ((2 : Nat) : Int) = 2 := rfl
    have n2p : (2 : Int) = 2 := rfl
    have ea := el_at hk
    have hx := h _ (List.getElem_mem hk)
    generalize l[k] = x at ea hx
    obtain ⟨t, d3, e3, ht, b3⟩ := takeN (T := 2) b2 (by omega) (by omega) (by omega)
    have e3 : P__law_take [d2, .int 2] = .ok (.int (t : Nat)) [d3] := e3
    have z3 := b3.nz
    obtain ⟨v, ev, hv⟩ : ∃ v : Int, L2.atI [D.int 1, .int (-1)] (t : Int) = some (.int v) ∧ v.natAbs ≤ 1 := by
      rcases (show t = 0 ∨ t = 1 by omega) with rfl | rfl
      · exact ⟨1, rfl, by omega⟩
      · exact ⟨-1, rfl, by omega⟩
    have fin : ∀ (z : Int) (dd : D) (m : Nat), z.natAbs ≤ B + 1 → Bx m dd → m ≤ n + 8 → Wx noE (bnE [some dd, some (.lst false (l.map El.d)), some (.lst false O), some (.lst true ((l.map El.d).set k (.int z))), some (.int (k : Nat)), some (.int 2), none]) (fin [true, false] (fun x ds => ∃ (o : Bool) (l' : List El) (d' : D), frz x = outB o l' ∧ ds = [d'] ∧ l' ≠ [] ∧ l'.length ≤ M + 1 ∧ (∀ x ∈ l', x.ok (B + 1)) ∧ Bx (n + 8) d')) := fun z dd m hz hd hm => by
      have e : (l.map El.d).set k (.int z) = (l.set k (.i z)).map El.d := el_set (x := .i z)
      rw [e]
      exact bnE_ok (set_ok h (show (El.i z).ok (B + 1) from hz) (Nat.le_succ B)) (by omega) (by rw [List.length_set]; omega) hd hm
    cases x with
    | i z =>
      have ea : L2.atI (l.map El.d) (k : Int) = some (.int z) := ea
      have hz : z.natAbs ≤ B := hx
      have ga : gAddX [.int z, .int v] = some (.int (z + v)) := rfl
      simp! [n0, n2, n0p, n2p, ea, ib1, e3, z3, ev, ga, lN, ix]
      exact fin (z + v) d3 (n + 1 + 1 + 1) (by omega) b3 (by omega)
    | o y =>
      have ea : L2.atI (l.map El.d) (k : Int) = some y := ea
      obtain ⟨fy, _, _, ty, hty, hbb⟩ := odd_ty hx
      have ei : fIsi [y, .ty "int"] = some (.bl (isB ty "int")) := by
        show (match tyOf y with | some t => if isIn "int" = true then some (D.bl (isB t "int")) else none | none => none) = _
        rw [hty]; exact if_pos (by decide)
      cases b1' : isB ty "int" with
      | false =>
        rw [b1'] at ei
        simp! [n0, n2, n0p, n2p, ea, ei, fy, frz_of fy, lN, ix]
        exact fin 0 d2 (n + 1 + 1) (by omega) b2 (by omega)
      | true =>
        rw [b1'] at ei
        obtain ⟨bb, rfl⟩ : ∃ bb, y = .bl bb := by
          have hx : y ∈ oddE := hx
          unfold oddE at hx
          simp only [List.mem_cons, List.not_mem_nil, or_false] at hx
          rcases hx with rfl | rfl | rfl | rfl | rfl | rfl | rfl
          · cases hty; exact absurd b1' (by decide)
          · exact ⟨_, rfl⟩
          · exact ⟨_, rfl⟩
          · cases hty; exact absurd b1' (by decide)
          · cases hty; exact absurd b1' (by decide)
          · cases hty; exact absurd b1' (by decide)
          · cases hty; exact absurd b1' (by decide)
        have ga : gAddX [.bl bb, .int v] = some (.int (bI bb + v)) := rfl
        have hbI : (bI bb).natAbs ≤ 1 := by cases bb <;> decide
        simp! [n0, n2, n0p, n2p, ea, ei, e3, z3, ev, ga, lN, ix]
        exact fin (bI bb + v) d3 (n + 1 + 1 + 1) (by omega) b3 (by omega)
  · have n0 : ¬ ((3 : Nat) : Int) < 2 := by decide
    have n0p : ¬ (3 : Int) < 2 := by decide
    have n2 : ¬ ((3 : Nat) : Int) = 2 := by decide
    have n2p : ¬ (3 : Int) = 2 := by decide
    have n3 : ((3 : Nat) : Int) = 3 := rfl
    have n3p : (3 : Int) = 3 := rfl
    obtain ⟨j, d3, e3, hj, b3⟩ := takeN (T := l.length + 1) b2 (by omega) (by omega) (by omega)
    have z3 := b3.nz
    have e3 : P__law_take [d2, .int ((l.length : Int) + 1)] = .ok (.int (j : Nat)) [d3] := e3
    have ea := el_at hk
    have hx := h _ (List.getElem_mem hk)
    have fx := (El.f hx).1
    have ok3 : ∀ x ∈ oddW l.length ++ [l[k]], x.ok B := fun x hx' => by
      rcases List.mem_append.mp hx' with q | q
      · exact ok2 x q
      · rw [List.mem_singleton.mp q]; exact hx
    obtain ⟨x, d4, e4, hx4, _, b4⟩ := pickE (l := oddW l.length ++ [l[k]]) b3 (by omega) (by simp) (by simp [oddW]) ok3
    have z4 := b4.nz
    have f4 := (El.f hx4).1
    rw [List.map_append, hO] at e4
    have e4 : P__law_pick [d3, .lst false (O ++ [l[k].d])] = .ok x.d [d4] := e4
    have fO2 : frzdL (O ++ [l[k].d]) = true := by rw [frzdL_append, fo]; simp only [frzdL, fx, Bool.and_self]
    have lO : O.length = 11 := by rw [← hO]; rfl
    have ga : gAddX [.lst false O, .lst false [l[k].d]] = some (.lst true (O ++ [l[k].d])) := if_pos ⟨fo, by simp only [frzdL, fx, Bool.and_self], by rw [lO]; simp⟩
    have io : insOF (l.map El.d) (some [.int (j : Int), x.d]) = some ((l.take j ++ [x] ++ l.drop j).map El.d) := by
      have e : insOF (l.map El.d) (some [.int (j : Int), x.d]) = some ((l.map El.d).take (j : Int).toNat ++ [x.d] ++ (l.map El.d).drop (j : Int).toNat) := if_pos ⟨f, f4, by omega, by omega, by omega⟩
      rw [e, Int.toNat_natCast, List.map_append, List.map_append, List.map_take, List.map_drop]; rfl
    simp! [n0, n2, n3, n0p, n2p, n3p, lN, e3, z3, ea, fx, frz_of fx, fo, frzL_of fo, ga, fO2, frzL_of fO2, e4, z4, f4, frz_of f4, eInsF, kInsF, kInsF1, kInsF2, insR, getL, getO, io]
    refine bnE_ok (fun y hy => ?_) (by omega) (show (l.take j ++ [x] ++ l.drop j).length ≤ M + 1 from by
      simp only [List.length_append, List.length_take, List.length_drop, List.length_cons, List.length_nil]
      omega) (Bx.mono b4 (show n + 1 + 1 + 1 + 1 ≤ n + 8 by omega)) (Nat.le_refl _)
    rcases List.mem_append.mp hy with q | q
    · rcases List.mem_append.mp q with q | q
      · exact (h y (List.mem_of_mem_take q)).mono (Nat.le_succ B)
      · rw [List.mem_singleton.mp q]; exact hx4.mono (Nat.le_succ B)
    · exact (h y (List.mem_of_mem_drop q)).mono (Nat.le_succ B)
  · have n0 : ¬ ((4 : Nat) : Int) < 2 := by decide
    have n0p : ¬ (4 : Int) < 2 := by decide
    have n2 : ¬ ((4 : Nat) : Int) = 2 := by decide
    have n2p : ¬ (4 : Int) = 2 := by decide
    have n3 : ¬ ((4 : Nat) : Int) = 3 := by decide
    have n3p : ¬ (4 : Int) = 3 := by decide
    have n4 : ((4 : Nat) : Int) = 4 := rfl
    have n4p : (4 : Int) = 4 := rfl
    simp! [n0, n2, n3, n4, n0p, n2p, n3p, n4p, lN, ix]
    have po : popO (l.map El.d) (some k) = some ((l.map El.d).eraseIdx k, l[k].d) := by
      have eg : (l.map El.d)[k]? = some l[k].d := by rw [List.getElem?_map, List.getElem?_eq_getElem hk]; rfl
      show (match (l.map El.d)[k]? with | some r => some ((l.map El.d).eraseIdx k, r) | none => none) = _
      rw [eg]
    simp! [po]
    rw [el_erase (k := 0)]
    exact bnE_ok (fun x hx => (h x (List.mem_of_mem_eraseIdx hx)).mono (Nat.le_succ B)) (by omega) (by have := List.length_eraseIdx_le l k; omega) b2 (by omega)
  · have n0 : ¬ ((5 : Nat) : Int) < 2 := by decide
    have n0p : ¬ (5 : Int) < 2 := by decide
    have n2 : ¬ ((5 : Nat) : Int) = 2 := by decide
    have n2p : ¬ (5 : Int) = 2 := by decide
    have n3 : ¬ ((5 : Nat) : Int) = 3 := by decide
    have n3p : ¬ (5 : Int) = 3 := by decide
    have n4 : ¬ ((5 : Nat) : Int) = 4 := by decide
    have n4p : ¬ (5 : Int) = 4 := by decide
    have n5 : ((5 : Nat) : Int) = 5 := rfl
    have n5p : (5 : Int) = 5 := rfl
    obtain ⟨j, d3, e3, hj, b3⟩ := takeN (T := l.length) b2 (by omega) l1 (by omega)
    have z3 := b3.nz
    have ea := el_at hk
    have eb := el_at hj
    have jx := ixN_at (n := l.length) hj
    have fa := (El.f (h _ (List.getElem_mem hk))).1
    have fb := (El.f (h _ (List.getElem_mem hj))).1
    simp! [n0, n2, n3, n4, n5, n0p, n2p, n3p, n4p, n5p, lN, e3, z3, ea, eb, f, frzL_of f, fa, fb, frz_of fa, frz_of fb, sSwap, sub1, setIx, ix, jx, List.length_set]
    rw [el_set, el_set]
    exact bnE_ok (set_ok (set_ok h ((h _ (List.getElem_mem hj)).mono (Nat.le_succ B)) (Nat.le_succ B)) ((h _ (List.getElem_mem hk)).mono (Nat.le_succ B)) (Nat.le_refl _)) (by omega) (by rw [List.length_set, List.length_set]; omega) b3 (by omega)
  · have n0 : ¬ ((6 : Nat) : Int) < 2 := by decide
    have n0p : ¬ (6 : Int) < 2 := by decide
    have n2 : ¬ ((6 : Nat) : Int) = 2 := by decide
    have n2p : ¬ (6 : Int) = 2 := by decide
    have n3 : ¬ ((6 : Nat) : Int) = 3 := by decide
    have n3p : ¬ (6 : Int) = 3 := by decide
    have n4 : ¬ ((6 : Nat) : Int) = 4 := by decide
    have n4p : ¬ (6 : Int) = 4 := by decide
    have n5 : ¬ ((6 : Nat) : Int) = 5 := by decide
    have n5p : ¬ (6 : Int) = 5 := by decide
    have n6 : ((6 : Nat) : Int) = 6 := rfl
    have n6p : (6 : Int) = 6 := rfl
    obtain ⟨j, d3, e3, hj, b3⟩ := takeN (T := l.length) b2 (by omega) l1 (by omega)
    have z3 := b3.nz
    have eb := el_at hj
    have fb := (El.f (h _ (List.getElem_mem hj))).1
    simp! [n0, n2, n3, n4, n5, n6, n0p, n2p, n3p, n4p, n5p, n6p, lN, e3, z3, eb, f, frzL_of f, fb, frz_of fb, ix]
    rw [el_set]
    exact bnE_ok (set_ok h ((h _ (List.getElem_mem hj)).mono (Nat.le_succ B)) (Nat.le_succ B)) (by omega) (by rw [List.length_set]; omega) b3 (by omega)
  · have n0 : ¬ ((7 : Nat) : Int) < 2 := by decide
    have n0p : ¬ (7 : Int) < 2 := by decide
    have n2 : ¬ ((7 : Nat) : Int) = 2 := by decide
    have n2p : ¬ (7 : Int) = 2 := by decide
    have n3 : ¬ ((7 : Nat) : Int) = 3 := by decide
    have n3p : ¬ (7 : Int) = 3 := by decide
    have n4 : ¬ ((7 : Nat) : Int) = 4 := by decide
    have n4p : ¬ (7 : Int) = 4 := by decide
    have n5 : ¬ ((7 : Nat) : Int) = 5 := by decide
    have n5p : ¬ (7 : Int) = 5 := by decide
    have n6 : ¬ ((7 : Nat) : Int) = 6 := by decide
    have n6p : ¬ (7 : Int) = 6 := by decide
    have gt : gTuple [.lst false (l.map El.d)] = some (.tup (l.map El.d)) := by
      show (if _ then _ else _) = _
      rw [if_pos hb1]
    simp! [n0, n2, n3, n4, n5, n6, n0p, n2p, n3p, n4p, n5p, n6p, lN, f, frzL_of f, gt, hb1]
    exact ⟨false, l, d2, (by first | rfl | (simp only [SV.frz, frzL_of f]; rfl)), rfl, h0, by omega, fun x hx => (h x hx).mono (Nat.le_succ B), Bx.mono b2 (by omega)⟩

theorem isi_l {t : D} {T : String} (h : tyOf t = some T) : fIsi [t, .ty "list"] = some (.bl (isB T "list")) := by
  show (match tyOf t with | some t => if isIn "list" = true then some (D.bl (isB t "list")) else none | none => none) = _
  rw [h]; exact if_pos (by decide)
theorem nol_o {t : D} {T : String} (h : tyOf t = some T) (hT : isB T "list" = false) (f : frzd t = true) : P_is_order [t] = .ok (.bl false) [] ∧ P__law_is_it [t] = .ok (.bl false) [] := by
  have e := isi_l h
  rw [hT] at e
  constructor
  · refine Cw_eq (R_is_order ?_)
    unfold m_is_order
    simp! [f, frz_of f, e]
  · refine Cw_eq (R__law_is_it ?_)
    unfold m__law_is_it
    simp! [f, frz_of f, e]
theorem lol_o {xs : List D} (f : frzdL xs = true) (p : plainL xs = true) (dp : depL xs ≤ 50) : P_is_order [.lst false [.lst false xs]] = .ok (.bl false) [] ∧ P__law_is_it [.lst false [.lst false xs]] = .ok (.bl false) [] := by
  have ft : frzdL [D.lst false xs] = true := by simp only [frzdL, frzd, f, Bool.not_false, Bool.and_self]
  have fl : frzd (.lst false xs) = true := by simp only [frzd, f, Bool.not_false, Bool.and_self]
  have ei : fIsi [.lst false xs, .ty "int"] = some (.bl false) := rfl
  have ep : P_is_place [.lst false xs, .int 1] = .ok (.bl false) [] := by
    refine Cw_eq (R_is_place ?_)
    unfold m_is_place
    simp! [f, frzL_of f, ei]
  have ep' : P_is_place [.lst false xs, .int ((1 : Nat) : Int)] = .ok (.bl false) [] := ep
  have fa : fAll [.lst true [.bl false]] = some (.bl false) := rfl
  have n1 : ¬ ((1 : Nat) : Int) = 0 := by decide
  have n1' : ¬ (1 : Int) = 0 := by decide
  constructor
  · refine Cw_eq (R_is_order ?_)
    unfold m_is_order
    simp! [n1, n1', ft, frzL_of ft, ib3]
    refine Wx_map1 (fun _ => .bl false) (fun y hy => ?_) ?_
    · rw [List.mem_singleton.mp hy]
      simp! [ft, frzL_of ft, fl, frz_of fl, ep, ep']
    · rw [List.map_cons, List.map_nil]
      simp! [fa]
  · have en := eq_nil (o := false) (o' := true) (xs := [.lst false xs]) (by simp only [plainL, plainD, p, Bool.and_self]) (by simp only [depL, dep]; omega)
    rw [decide_eq_false (by simp)] at en
    refine Cw_eq (R__law_is_it ?_)
    unfold m__law_is_it
    simp! [ft, frzL_of ft, ib3, en]
    refine Wx_map1 (fun _ => .bl false) (fun y hy => ?_) ?_
    · rw [List.mem_singleton.mp hy]
      simp! [ft, frzL_of ft, fl, frz_of fl, ei]
    · rw [List.map_cons, List.map_nil]
      simp! [fa]

theorem ne_ss {x : Str} (h : PyData.strOk x = true) : fNe [.str x, .str x] = some (.bl false) := by
  have hp : eqOk (.str x) (.str x) = true := by simp [eqOk, plainD, h, dep]
  have e : eqD (.str x) (.str x) = true := eqv_refl _ h
  show (if eqOk (.str x) (.str x) = true then some (D.bl (!eqD (.str x) (.str x))) else none) = _
  rw [if_pos hp, e]
  rfl
theorem sh_odd {d : D} (h : d ∈ oddE) : Sh (toPy d) 2 60 := by
  unfold oddE at h
  simp only [List.mem_cons, List.not_mem_nil, or_false] at h
  rcases h with rfl | rfl | rfl | rfl | rfl | rfl | rfl
  all_goals exact ⟨by decide +kernel, by decide +kernel, by decide +kernel, by decide +kernel, by decide +kernel⟩
theorem el_sh {B : Nat} {x : El} (h : x.ok B) (hB : B < 100000) : Sh (toPy x.d) 2 60 := by
  cases x with
  | i z =>
    have hz : z.natAbs ≤ B := h
    have p6 : (10 : Nat) ^ 6 = 1000000 := by decide
    have := sh_int (i := z) (k := 6) (by omega) (by omega) (by omega)
    exact this.mono (by omega) (by omega)
  | o d => exact sh_odd h
theorem toPyL_el {l : List El} : toPyL (l.map El.d) = l.map fun x => toPy x.d := by
  induction l with
  | nil => rfl
  | cons x l ih => rw [List.map_cons, List.map_cons, ← ih]; rfl
theorem rep_row {B : Nat} {l : List El} (h : ∀ x ∈ l, x.ok B) (hB : B < 100000) (ll : l.length ≤ 64) : ∃ X : Str, fRepr [.lst false (l.map El.d)] = some (.str X) ∧ fNe [.str X, .str X] = some (.bl false) := by
  have e : toPy (.lst false (l.map El.d)) = .list (l.map fun x => toPy x.d) := by simp only [toPy, toPyL_el]
  have s := sh_list (ds := l.map fun x => toPy x.d) (dp := 2) (n := 60) fun d hd => by
    obtain ⟨x, hx, rfl⟩ := List.mem_map.mp hd
    exact el_sh (h x hx) hB
  have p := (els_f h).2.1
  have rk : rOk (.lst false (l.map El.d)) = true := by
    unfold rOk
    rw [e, shO_of s (by omega) (by rw [List.length_map]; omega)]
    show (plainD (.lst false (l.map El.d)) && _) = true
    simp [plainD, p, items]
  have er := repr_seq rk
  have so : PyData.strOk (toPy (.lst false (l.map El.d))).shown = true := by rw [e]; exact s.ok
  generalize (toPy (.lst false (l.map El.d))).shown = X at er so
  exact ⟨X, er, ne_ss so⟩
theorem rep_tup {B : Nat} {l : List El} (h : ∀ x ∈ l, x.ok B) (hB : B < 100000) (ll : l.length ≤ 64) : ∃ X : Str, fRepr [.tup (l.map El.d)] = some (.str X) ∧ fNe [.str X, .str X] = some (.bl false) := by
  have e : toPy (.tup (l.map El.d)) = PyData.tuple (l.map fun x => toPy x.d) := by simp only [toPy, toPyL_el]
  have s := sh_tuple (ds := l.map fun x => toPy x.d) (dp := 2) (n := 60) fun d hd => by
    obtain ⟨x, hx, rfl⟩ := List.mem_map.mp hd
    exact el_sh (h x hx) hB
  have p := (els_f h).2.1
  have rk : rOk (.tup (l.map El.d)) = true := by
    unfold rOk
    rw [e, shO_of s (by omega) (by rw [List.length_map]; omega)]
    show (plainD (.tup (l.map El.d)) && _) = true
    simp [plainD, p, items]
  have er := repr_seq rk
  have so : PyData.strOk (toPy (.tup (l.map El.d))).shown = true := by rw [e]; exact s.ok
  generalize (toPy (.tup (l.map El.d))).shown = X at er so
  exact ⟨X, er, ne_ss so⟩

noncomputable def bdL : M Fl :=
  (sSeq (sSet 3 (eFr (eCall [true, false] P__law_bent (aCons (oS 0) (aCons (oS 1) aNil)))))
  (sSeq (sEx (eM1 7 fApp (eIf (tAnd (tB (e2 fEq (oV (eCall [true, false] P__law_take (aCons (oS 0) (aCons (oV (eC (.int 3))) aNil)))) (oV (eC (.int 0))))) (tTr (oV (opS fIsi (aCons (oS 3) (aCons (oV (eC (.ty "list"))) aNil)))))) (eCall [true, false] P__law_bent (aCons (oS 0) (aCons (oS 3) aNil))) (eN 3))))
  sNil))
noncomputable def tsL : M Fl :=
  (sSeq (sPar [11, 4] (aCons (oV (opS fReprA (aCons (oS 3) aNil))) (aCons (oV (eFr (eCall [false] P__law_is_it (aCons (oS 3) aNil)))) aNil)))
  (sSeq (sIf (tOr (tNot (tTr (oV (eLn (eCall [false, false] P__law_same_ (aCons (oV (eLst (aCons (oV (eCall [false] P_is_order (aCons (oS 3) aNil))) (aCons (oV (eCall [false] P_is_order (aCons (oS 3) aNil))) aNil)))) (aCons (oV (eLst (aCons (oS 4) (aCons (oS 4) aNil)))) aNil))))))) (tB (e2 fNe (oV (opS fReprA (aCons (oS 3) aNil))) (oS 11)))) (sSeq (sRet (eC (.bl false)))
  sNil) sNil)
  sNil))
noncomputable def gvL : M Fl :=
  (sSeq (sSet 8 (eLst (aCons (oV (eCall [false] P_inverse_order (aCons (oS 5) aNil))) (aCons (oV (eCall [false] P_inverse_order (aCons (oS 5) aNil))) (aCons (oV (eCall [false] P_inverse_order (aCons (oS 4) aNil))) aNil)))))
  (sSeq (sIf (tNot (tTr (oV (eLn (eCall [false, false] P__law_same_ (aCons (oS 8) (aCons (oV (eLst (aCons (oS 4) (aCons (oS 4) (aCons (oS 1) aNil))))) aNil))))))) (sSeq (sRet (eC (.bl false)))
  sNil) sNil)
  (sSeq (sEx (eMp0 8 [0] fReverse))
  (sSeq (sEx (eMp1 8 [2] fApp (.int (-1))))
  (sSeq (sSet 9 (eCall [false] P_order_cycles (aCons (oS 5) aNil)))
  (sSeq (sIf (tNot (tTr (oV (eLn (eCall [false, false] P__law_same_ (aCons (oS 9) (aCons (oV (eCall [false] P__law_rounds (aCons (oS 1) aNil))) aNil))))))) (sSeq (sRet (eC (.bl false)))
  sNil) sNil)
  (sSeq (sClr 9 10)
  (sSeq (sEx (eM1 9 fApp (eC (.str "more"))))
  (sSeq (sIf (tNot (tTr (oV (eLn (eCall [false, false] P__law_same_ (aCons (oV (eLst (aCons (oV (eCall [false] P_inverse_order (aCons (oS 5) aNil))) (aCons (oV (eCall [false] P_order_cycles (aCons (oS 5) aNil))) aNil)))) (aCons (oV (eLst (aCons (oS 4) (aCons (oV (eCall [false] P__law_rounds (aCons (oS 1) aNil))) aNil)))) aNil))))))) (sSeq (sRet (eC (.bl false)))
  sNil) sNil)
  sNil)))))))))
noncomputable def ixL : M D :=
  (eLc [12] (gN 12) (SV.iRng (aCons (oV (opS fLen (aCons (oS 1) aNil))) aNil)) tYesM (opS fIndex (aCons (oTy "list" (oS 1)) (aCons (oS 12) aNil))))
noncomputable def thL : M D :=
  (eLst (aCons (oS 1) (aCons (oV (opA gTuple (aCons (oS 1) aNil))) (aCons (oV (eC .non)) (aCons (oV (eC (.int 0))) (aCons (oV (eC (.str ""))) (aCons (oV (eTup aNil)) (aCons (oV (eLst aNil)) (aCons (oV (eLst (aCons (oV (eLst aNil)) aNil))) (aCons (oV (eLst (aCons (oV (eC (.int 0))) aNil))) (aCons (oV (eLst (aCons (oV (eC (.int 1))) aNil))) (aCons (oV (eLst (aCons (oV (eC (.bl true))) aNil))) (aCons (oV (eLst (aCons (oV (eC (.bl false))) aNil))) (aCons (oV (eLst (aCons (oV (eC (.int 0))) (aCons (oV (eC (.int 2))) aNil)))) (aCons (oV (eLst (aCons (oS 1) aNil))) aNil)))))))))))))))
noncomputable def szL : M D :=
  (eIx (oV (eLst (aCons (oV (eC (.int 1))) (aCons (oV (eC (.int 2))) (aCons (oV (e2 fAdd (oV (eC (.int 1))) (oV (eCall [true, false] P__law_take (aCons (oS 0) (aCons (oV (eC (.int 12))) aNil)))))) (aCons (oV (e2 fAdd (oV (eC (.int 1))) (oV (eCall [true, false] P__law_take (aCons (oS 0) (aCons (oV (eC (.int 60))) aNil)))))) aNil)))))) (oV (eCall [true, false] P__law_take (aCons (oS 0) (aCons (oV (eC (.int 4))) aNil)))))
theorem cut__law_right : m__law_right =
    (sSeq (sSet 1 (eFr (eCall [true, false] P__law_shuffled (aCons (oS 0) (aCons (oV szL) aNil)))))
  (sSeq (sPar [6, 7] (aCons (oV (eFr (opA gList (aCons (oS 1) aNil)))) (aCons (oV thL) aNil)))
  (sSeq (sFor (gN 2) (SV.iRng (aCons (oV (eC (.int 12))) aNil)) bdL)
  (sSeq (sFor (gN 3) (iSeq (oV (eFz 7))) tsL)
  (sSeq (sSet 4 (eFr ixL))
  (sSeq (sFor (gN 5) (iSeq (oV (eTup (aCons (oS 1) (aCons (oV (opA gTuple (aCons (oS 1) aNil))) aNil))))) gvL)
  (sSeq (sRet (e2 fEq (oS 1) (oS 6)))
  sNil))))))) := (rfl)

theorem find_zn {k : Nat} : ∀ {a : List Nat}, k ∈ a → ((zn a).map L2.V.int).findIdx? (fun z => L2.eqV z (.int (k : Nat))) = some (a.idxOf k)
  | [], h => nomatch h
  | x :: r, h => by
    show (L2.V.int (x : Int) :: (zn r).map L2.V.int).findIdx? _ = _
    rw [List.findIdx?_cons]
    by_cases e : x = k
    · subst e
      have e1 : L2.eqV (.int (x : Int)) (.int (x : Int)) = true := by simp [L2.eqV]
      rw [e1, if_pos rfl, List.idxOf_cons_self]
    · have e1 : L2.eqV (.int (x : Int)) (.int (k : Int)) = false := by simp [L2.eqV]; omega
      have hr : k ∈ r := (List.mem_cons.mp h).resolve_left fun z => e z.symm
      rw [e1, if_neg (by decide), find_zn hr, List.idxOf_cons, show (x == k) = false by simpa using e]
      rfl
theorem idx_zn {a : List Nat} {k : Nat} {o : Bool} (h : k ∈ a) : fIndex [.lst o ((zn a).map D.int), .int (k : Nat)] = some (.int (a.idxOf k : Nat)) := by
  show idxR (match some (L2.V.int ((k : Nat) : Int)), sclL ((zn a).map D.int) with | some v, some vs => vs.findIdx? fun z => L2.eqV z v | _, _ => none) = _
  rw [sclL_ints]
  show idxR (((zn a).map L2.V.int).findIdx? fun z => L2.eqV z (.int (k : Nat))) = _
  rw [find_zn h]
  rfl
theorem ixL_ok {a : List Nat} {n : Nat} {a0 a2 a3 a4 a5 a6 a7 a8 a9 a10 a11 : Option D} {E : Ex} {Q : D → S → Prop} (h : IsP a n) (hn : n ≤ 100) (hQ : Q (.lst true ((zn (inv a)).map D.int)) [a0, some (.lst false ((zn a).map D.int)), a2, a3, a4, a5, a6, a7, a8, a9, a10, a11, none]) : Wx E (ixL [a0, some (.lst false ((zn a).map D.int)), a2, a3, a4, a5, a6, a7, a8, a9, a10, a11, none]) Q := by
  have la : ((zn a).map D.int).length = n := by rw [List.length_map, zn_len, h.len]
  have hb0 : ((n : Nat) : Int).natAbs < 4611686018427387904 := by omega
  have hb2 : n ≤ 100000 := by omega
  unfold ixL
  simp! [la, hb0, hb2]
  refine Wx_lc (fun i acc st => st = [a0, some (.lst false ((zn a).map D.int)), a2, a3, a4, a5, a6, a7, a8, a9, a10, a11, none] ∧ acc = (zn ((List.range i).map fun p => a.idxOf p)).map D.int) ⟨rfl, rfl⟩ ?_ ?_
  · rintro i y acc st hy ⟨rfl, rfl⟩
    obtain ⟨hi, rfl⟩ := irange_get hy
    have e := idx_zn (o := false) (h.onto hi)
    simp! [Int.zero_add, e]
    rw [List.range_succ, List.map_append, List.map_singleton, zn_snoc]
  · rintro ds st ⟨rfl, rfl⟩
    rw [irange_len]
    simp!
    have e : (List.range n).map (fun p => a.idxOf p) = inv a := by unfold inv; rw [h.len]
    rw [e]
    exact hQ
theorem inv_back {a : List Nat} {n : Nat} (h : IsP a n) : a.map (fun j => (inv a)[j]?) = (List.range (inv a).length).map some := by
  refine List.ext_getElem? fun i => ?_
  rw [inv_len]
  by_cases hi : i < a.length
  · have e1 : a[i]? = some a[i] := List.getElem?_eq_getElem hi
    have e2 : (List.range a.length)[i]? = some i := by rw [List.getElem?_eq_getElem (by rw [List.length_range]; exact hi), List.getElem_range]
    rw [List.getElem?_map, e1, List.getElem?_map, e2, Option.map_some, Option.map_some]
    obtain ⟨q, f1, f2⟩ := inv_get h (h.lt a[i] (List.getElem_mem hi))
    rw [f1, nd_inj h.nd f2 e1]
  · rw [List.getElem?_eq_none (by rw [List.length_map]; omega), List.getElem?_eq_none (by rw [List.length_map, List.length_range]; omega)]
theorem frzL_fL {fs : List (List Nat)} : frzL (fs.map fL) = fs.map fB := by
  induction fs with
  | nil => rfl
  | cons f r ih =>
    rw [List.map_cons, List.map_cons, z_cons, ih, frz_fL]
theorem gd_cy {fs : List (List Nat)} (h : ∀ f ∈ fs, f.length ≤ 1000) : gdL (fs.map fB) = true := by
  induction fs with
  | nil => rfl
  | cons f r ih =>
    have h1 := h f List.mem_cons_self
    rw [List.map_cons]
    show (gd (fB f) && gdL (r.map fB)) = true
    rw [ih fun g hg => h g (List.mem_cons_of_mem _ hg)]
    rw [show gd (fB f) = true from gd_intL (by rw [zn_len]; exact h1)]
    rfl
theorem dp_cy {fs : List (List Nat)} : depL (fs.map fB) ≤ 2 := by
  induction fs with
  | nil => simp [depL]
  | cons f r ih =>
    have : depL ((zn f).map D.int) ≤ 0 := by
      generalize zn f = xs
      induction xs with
      | nil => simp [depL]
      | cons x xs ih => simp only [List.map_cons, depL, dep]; omega
    simp only [List.map_cons, depL]
    have : dep (fB f) ≤ 1 := by unfold fB; simp only [dep]; omega
    omega
theorem cyF_len {a : List Nat} {n : Nat} (h : IsP a n) (hn : n ≤ 100) : (cyF a n).length ≤ n ∧ ∀ f ∈ cyF a n, f.length ≤ 1000 := by
  constructor
  · refine Nat.le_trans (List.length_filter_le _ _) ?_
    rw [List.length_map, List.length_range]
    exact Nat.le_refl _
  · intro f hf
    obtain ⟨hf, _⟩ := List.mem_filter.mp hf
    obtain ⟨b, hb, rfl⟩ := List.mem_map.mp hf
    have := (rF_len h (List.mem_range.mp hb) hn).2
    omega
theorem gvL_ok {g : D} {a : List Nat} {n : Nat} {a0 a2 a3 a6 a7 a8 a9 a10 a11 : Option D} {E : Ex} {Q : Fl → S → Prop} (hg : Row g (zn a)) (h : IsP a n) (hn : n ≤ 100) (hQ : ∀ a8 a9 a10, Q .nx [a0, some (.lst false ((zn a).map D.int)), a2, a3, some (.lst false ((zn (inv a)).map D.int)), some g, a6, a7, a8, a9, a10, a11, none]) :
    Wx E (gvL [a0, some (.lst false ((zn a).map D.int)), a2, a3, some (.lst false ((zn (inv a)).map D.int)), some g, a6, a7, a8, a9, a10, a11, none]) Q := by
  have gF : frzd g = true := by rcases hg with rfl | rfl <;> simp [frzd, frz_ints]
  have la := h.len
  have e1 := inverse_ok hg h.nd (by omega) (inv_spec h)
  have hi := inv_isP h
  have e2 := inverse_ok (d := .lst false ((zn (inv a)).map D.int)) (.inl rfl) hi.nd (by rw [inv_len]; omega) (inv_back h)
  have e3 := cycR_ok hg h hn
  have e4 := rounds_ok h hn
  obtain ⟨c1, c2⟩ := cyF_len h hn
  have dI : ∀ xs : List Int, depL (xs.map D.int) ≤ 0 := fun xs => by
    induction xs with
    | nil => simp [depL]
    | cons x xs ih => simp only [List.map_cons, depL, dep]; omega
  have d1 := dI (zn a)
  have d2 := dI (zn (inv a))
  have g1 : gd (.lst false ((zn a).map D.int)) = true := gd_intL (by rw [zn_len]; omega)
  have g2 : gd (.lst false ((zn (inv a)).map D.int)) = true := gd_intL (by rw [zn_len, inv_len]; omega)
  have g3 : gd (.lst false ((cyF a n).map fB)) = true := by
    have l : ((cyF a n).map fB).length ≤ 100000 := by rw [List.length_map]; omega
    show (!false && (decide (((cyF a n).map fB).length ≤ 100000) && gdL ((cyF a n).map fB))) = true
    rw [gd_cy c2, decide_eq_true l]
    rfl
  have d3 := dp_cy (fs := cyF a n)
  have s1 : P__law_same_ [.lst false [.lst false ((zn (inv a)).map D.int), .lst false ((zn (inv a)).map D.int), .lst false ((zn a).map D.int)], .lst false [.lst false ((zn (inv a)).map D.int), .lst false ((zn (inv a)).map D.int), .lst false ((zn a).map D.int)]] = .ok (.bl true) [] := same_self (by
    show (decide ([D.lst false ((zn (inv a)).map D.int), .lst false ((zn (inv a)).map D.int), .lst false ((zn a).map D.int)].length ≤ 100000) && gdL _) = true
    simp only [gdL, g1, g2]
    rfl) (by simp only [dep, depL]; omega)
  have s2 : P__law_same_ [.lst false ((cyF a n).map fB), .lst false ((cyF a n).map fB)] = .ok (.bl true) [] := same_self g3 (by simp only [dep]; omega)
  have s3 : P__law_same_ [.lst false [.lst false ((zn (inv a)).map D.int), .lst false ((cyF a n).map fB)], .lst false [.lst false ((zn (inv a)).map D.int), .lst false ((cyF a n).map fB)]] = .ok (.bl true) [] := same_self (by
    show (decide ([D.lst false ((zn (inv a)).map D.int), .lst false ((cyF a n).map fB)].length ≤ 100000) && gdL _) = true
    simp only [gdL, g2, g3]
    rfl) (by simp only [dep, depL]; omega)
  have cf := cy_frz (fs := cyF a n)
  have f1 := frz_ints (ns := zn a)
  have f2 := frz_ints (ns := zn (inv a))
  have ho : ((cyF a n).map fL).all isOL = true := by
    rw [List.all_map]
    exact List.all_eq_true.mpr fun f _ => rfl
  have cl : ((cyF a n).map fL).length < 100000 := by rw [List.length_map]; omega
  have cl2 : (((cyF a n).map fL).map fun _ => D.lst true []).length < 100000 := by rw [List.length_map]; exact cl
  have rv1 := rv_ints (xs := zn (inv a))
  unfold gvL
  have la2 : ((zn a).map D.int).length < 100000 := by rw [List.length_map, zn_len]; omega
  have qc : ∀ {b0 b1 b2 b3 b4 b5 b6 b7 b8 b10 b11 b12 : Option D} {E : Ex} {Q : Fl → S → Prop}, Wx E (sClr 9 10 [b0, b1, b2, b3, b4, b5, b6, b7, b8, some (.lst true ((cyF a n).map fL)), b10, b11, b12]) Q = Q .nx [b0, b1, b2, b3, b4, b5, b6, b7, b8, some (.lst true (((cyF a n).map fL).map fun _ => .lst true [])), none, b11, b12] := q_sClr rfl ho (by simp)
  simp! [gF, frz_of gF, e1, e2, f1, frzL_of f1, f2, frzL_of f2, s1, rv1, la2, e3, e4, frzL_fL, cf, frzL_of cf, s2, qc, cl2, s3]
  exact hQ _ _ _

structure Th (t : D) : Prop where
  fz : frzd t = true
  o : ∃ b, P_is_order [t] = .ok (.bl b) [] ∧ P__law_is_it [t] = .ok (.bl b) []
  r : ∃ X : Str, fReprA [t] = some (.str X) ∧ fNe [.str X, .str X] = some (.bl false)
theorem Th.row {B : Nat} {l : List El} (h : ∀ x ∈ l, x.ok B) (hB : B < 100000) (ll : l.length ≤ 64) : Th (.lst false (l.map El.d)) :=
  ⟨(els_f h).1, ⟨_, order_row h (by omega), isit_row h (by omega)⟩, rep_row h hB ll⟩
theorem Th.tup {B : Nat} {l : List El} (h : ∀ x ∈ l, x.ok B) (hB : B < 100000) (ll : l.length ≤ 64) : Th (.tup (l.map El.d)) :=
  ⟨(els_f h).1, ⟨_, nol_o (T := "tuple") rfl (by decide) (els_f h).1⟩, rep_tup h hB ll⟩
theorem Th.non : Th .non := ⟨rfl, ⟨_, nol_o (T := "NoneType") rfl (by decide) rfl⟩, ⟨"None", rfl, ne_ss (by decide +kernel)⟩⟩
theorem Th.emp : Th (.str "") := ⟨rfl, ⟨_, nol_o (T := "str") rfl (by decide) rfl⟩, ⟨reprText "", (show (if (reprText "").length ≤ 100000 then some (D.str (reprText "")) else none) = _ from if_pos (by decide +kernel)), ne_ss (by decide +kernel)⟩⟩
theorem Th.zero : Th (.int 0) := ⟨rfl, ⟨_, nol_o (T := "int") rfl (by decide) rfl⟩, ⟨toString (0 : Int), (show (if (0 : Int).natAbs.log2 < 1920 then some (D.str (toString (0 : Int))) else none) = _ from if_pos (by decide +kernel)), ne_ss (by decide +kernel)⟩⟩
theorem Th.nest {B : Nat} {l : List El} (h : ∀ x ∈ l, x.ok B) (hB : B < 100000) (ll : l.length ≤ 64) : Th (.lst false [.lst false (l.map El.d)]) := by
  obtain ⟨f, p, dp⟩ := els_f h
  refine ⟨by simp [frzd, frzdL, f], ⟨_, lol_o f p (by omega)⟩, ?_⟩
  have e0 : toPy (.lst false (l.map El.d)) = .list (l.map fun x => toPy x.d) := by simp only [toPy, toPyL_el]
  have s0 := sh_list (ds := l.map fun x => toPy x.d) (dp := 2) (n := 60) fun d hd => by
    obtain ⟨x, hx, rfl⟩ := List.mem_map.mp hd
    exact el_sh (h x hx) hB
  rw [List.length_map] at s0
  have s1 := s0.mono (dp' := 3) (n' := 5000) (by omega) (by omega)
  have e : toPy (.lst false [.lst false (l.map El.d)]) = .list [toPy (.lst false (l.map El.d))] := by simp only [toPy, toPyL]
  have s := sh_list (ds := [toPy (.lst false (l.map El.d))]) (dp := 3) (n := 5000) fun d hd => by
    rw [List.mem_singleton.mp hd, e0]
    exact s1
  have rk : rOk (.lst false [.lst false (l.map El.d)]) = true := by
    unfold rOk
    rw [e, shO_of s (by omega) (by simp)]
    show (plainD (.lst false [.lst false (l.map El.d)]) && _) = true
    simp [plainD, plainL, p, items]
  have er := repr_seq rk
  have so : PyData.strOk (toPy (.lst false [.lst false (l.map El.d)])).shown = true := by rw [e]; exact s.ok
  generalize (toPy (.lst false [.lst false (l.map El.d)])).shown = X at er so
  exact ⟨X, er, ne_ss so⟩
theorem tsL_ok {t : D} {a0 a1 a2 a4 a5 a6 a7 a8 a9 a10 a11 a12 : Option D} {E : Ex} {Q : Fl → S → Prop} (h : Th t) (hQ : ∀ a4 a11, Q .nx [a0, a1, a2, some t, a4, a5, a6, a7, a8, a9, a10, a11, a12]) : Wx E (tsL [a0, a1, a2, some t, a4, a5, a6, a7, a8, a9, a10, a11, a12]) Q := by
  obtain ⟨b, o1, o2⟩ := h.o
  obtain ⟨X, r1, r2⟩ := h.r
  have f := h.fz
  have s : P__law_same_ [.lst false [.bl b, .bl b], .lst false [.bl b, .bl b]] = .ok (.bl true) [] := same_self (by simp [gd, gdL]) (by simp [dep, depL])
  unfold tsL
  simp! [f, frz_of f, r1, o2, o1, s, r2]
  exact hQ _ _
theorem mem_frzL : ∀ {ts : List D} {y : D}, y ∈ frzL ts → ∃ t ∈ ts, y = frz t
  | [], _, h => nomatch h
  | t :: ts, y, h => by
    rw [show frzL (t :: ts) = frz t :: frzL ts from rfl] at h
    rcases List.mem_cons.mp h with e | h
    · exact ⟨t, List.mem_cons_self, e⟩
    · obtain ⟨u, hu, e⟩ := mem_frzL h
      exact ⟨u, List.mem_cons_of_mem _ hu, e⟩
theorem szL_ok {n : Nat} {d : D} {rest : S} {E : Ex} {Q : D → S → Prop} (hb : Bx n d) (hn : n ≤ 2 ^ 38) (hQ : ∀ (c : Nat) d', 1 ≤ c → c ≤ 60 → Bx (n + 3) d' → Q (.int (c : Nat)) (some d' :: rest)) : Wx E (szL (some d :: rest)) Q := by
  obtain ⟨r, d1, e1, h1, b1⟩ := takeN (T := 12) hb (by omega) (by omega) (by omega)
  obtain ⟨u, d2, e2, h2, b2⟩ := takeN (T := 60) b1 (by omega) (by omega) (by omega)
  obtain ⟨k, d3, e3, h3, b3⟩ := takeN (T := 4) b2 (by omega) (by omega) (by omega)
  have z0 := hb.nz
  have z1 := b1.nz
  have z2 := b2.nz
  have z3 := b3.nz
  have e1 : P__law_take [d, .int 12] = .ok (.int (r : Nat)) [d1] := e1
  have e2 : P__law_take [d1, .int 60] = .ok (.int (u : Nat)) [d2] := e2
  have e3 : P__law_take [d2, .int 4] = .ok (.int (k : Nat)) [d3] := e3
  obtain ⟨c, ec, c1, c2⟩ : ∃ c : Nat, L2.atI [D.int 1, .int 2, .int (1 + (r : Int)), .int (1 + (u : Int))] (k : Int) = some (.int (c : Nat)) ∧ 1 ≤ c ∧ c ≤ 60 := by
    rcases (show k = 0 ∨ k = 1 ∨ k = 2 ∨ k = 3 by omega) with rfl | rfl | rfl | rfl
    · exact ⟨1, rfl, by omega, by omega⟩
    · exact ⟨2, rfl, by omega, by omega⟩
    · exact ⟨1 + r, rfl, by omega, by omega⟩
    · exact ⟨1 + u, rfl, by omega, by omega⟩
  unfold szL
  simp! [e1, e2, e3, z0, z1, z2, z3, ec]
  exact hQ c d3 c1 c2 b3

theorem outB_th {B : Nat} {o : Bool} {l : List El} (h : ∀ x ∈ l, x.ok B) (hB : B < 100000) (ll : l.length ≤ 64) : Th (outB o l) := by
  cases o with
  | true => exact Th.row h hB ll
  | false => exact Th.tup h hB ll
theorem bdL_ok {n : Nat} {d : D} {l : List El} {ts : List D} {a2 a3 a4 a5 a6 a8 a9 a10 a11 a12 : Option D} {E : Ex} {Q : Fl → S → Prop} (hb : Bx n d) (hn : n ≤ 2 ^ 37) (h0 : l ≠ []) (ll : l.length ≤ 60) (h : ∀ x ∈ l, x.ok 64) (ht : ts.length ≤ 1000) (hQ : ∀ d' x a3, Bx (n + 20) d' → Th (frz x) → Q .nx [some d', some (.lst false (l.map El.d)), a2, a3, a4, a5, a6, some (.lst true (ts ++ [x])), a8, a9, a10, a11, a12]) :
    Wx E (bdL [some d, some (.lst false (l.map El.d)), a2, a3, a4, a5, a6, some (.lst true ts), a8, a9, a10, a11, a12]) Q := by
  obtain ⟨f, p, dp⟩ := els_f h
  obtain ⟨x, o, l1, d1, e1, fx, n1, ll1, h1, b1⟩ := bent_ok (M := 60) hb (by omega) h0 ll h (by omega) (by omega)
  obtain ⟨k, d2, e2, hk, b2⟩ := takeN (T := 3) b1 (by omega) (by omega) (by omega)
  have e2 : P__law_take [d1, .int 3] = .ok (.int (k : Nat)) [d2] := e2
  have z0 := hb.nz
  have z1 := b1.nz
  have z2 := b2.nz
  have lt : ts.length < 100000 := by omega
  have f1 := (els_f h1).1
  have th1 : Th (outB o l1) := outB_th h1 (by omega) (by omega)
  have fo := th1.fz
  have ez : frz (outB o l1) = outB o l1 := frz_of fo
  have k0 : ((0 : Nat) : Int) = 0 := rfl
  unfold bdL
  by_cases q : k = 0
  · subst q
    cases o with
    | true =>
      obtain ⟨x3, o3, l3, d3, e3, fx3, n3, ll3, h3, b3⟩ := bent_ok (M := 61) b2 (by omega) n1 (by omega) h1 (by omega) (by omega)
      have z3 := b3.nz
      have e3 : P__law_bent [d2, outB true l1] = .ok x3 [d3] := e3
      have i1 : fIsi [outB true l1, .ty "list"] = some (.bl true) := isi_l (t := outB true l1) (T := "list") rfl
      simp! [f, frzL_of f, e1, z0, z1, fx, e2, z2, lt, k0, i1, fo, ez, e3, z3]
      exact hQ d3 x3 _ (Bx.mono b3 (by omega)) (by rw [fx3]; exact outB_th h3 (by omega) (by omega))
    | false =>
      have i1 : fIsi [outB false l1, .ty "list"] = some (.bl false) := isi_l (t := outB false l1) (T := "tuple") rfl
      simp! [f, frzL_of f, e1, z0, z1, fx, e2, z2, lt, k0, i1, fo, ez]
      exact hQ d2 _ _ (Bx.mono b2 (by omega)) (by rw [ez]; exact th1)
  · have q' : ¬ (k : Int) = 0 := by omega
    simp! [f, frzL_of f, e1, z0, z1, fx, e2, z2, q', lt, fo]
    exact hQ d2 _ _ (Bx.mono b2 (by omega)) (by rw [ez]; exact th1)

def things0 (a : List Nat) : List D := [.lst false ((zn a).map D.int), .tup ((zn a).map D.int), .non, .int 0, .str "", .tup [], .lst true [], .lst true [.lst true []], .lst true [.int 0], .lst true [.int 1], .lst true [.bl true], .lst true [.bl false], .lst true [.int 0, .int 2], .lst true [.lst false ((zn a).map D.int)]]
theorem nat_ok {a : List Nat} {n B : Nat} (h : IsP a n) (hB : n ≤ B) : ∀ x ∈ a.map (fun k : Nat => El.i (k : Int)), x.ok B := fun x hx => by
  obtain ⟨k, hk, rfl⟩ := List.mem_map.mp hx
  have := h.lt k hk
  show ((k : Nat) : Int).natAbs ≤ B
  omega
theorem things0_th {a : List Nat} {n : Nat} (h : IsP a n) (hn : n ≤ 60) : ∀ t ∈ things0 a, Th (frz t) := by
  have ok := nat_ok (B := 64) h (by omega)
  have la : (a.map (fun k : Nat => El.i (k : Int))).length ≤ 64 := by rw [List.length_map, h.len]; omega
  have r1 := Th.row ok (by omega) la
  have r2 := Th.tup ok (by omega) la
  have r3 := Th.nest ok (by omega) la
  rw [nat_els] at r1 r2 r3
  have f := frz_ints (ns := zn a)
  have one : ∀ l : List El, (∀ x ∈ l, x.ok 64) → l.length ≤ 64 → Th (.lst false (l.map El.d)) := fun l h1 h2 => Th.row h1 (by omega) h2
  intro t ht
  unfold things0 at ht
  simp only [List.mem_cons, List.not_mem_nil, or_false] at ht
  rcases ht with rfl | rfl | rfl | rfl | rfl | rfl | rfl | rfl | rfl | rfl | rfl | rfl | rfl | rfl
  · rw [frz_of r1.fz]; exact r1
  · rw [frz_of r2.fz]; exact r2
  · exact Th.non
  · exact Th.zero
  · exact Th.emp
  · exact Th.tup (l := []) (B := 64) (fun _ h => nomatch h) (by omega) (by simp)
  · exact one [] (fun _ h => nomatch h) (by simp)
  · exact Th.nest (l := []) (B := 64) (fun _ h => nomatch h) (by omega) (by simp)
  · exact one [.i 0] (fun x hx => by rw [List.mem_singleton.mp hx]; show (0 : Int).natAbs ≤ 64; omega) (by simp)
  · exact one [.i 1] (fun x hx => by rw [List.mem_singleton.mp hx]; show (1 : Int).natAbs ≤ 64; omega) (by simp)
  · exact one [.o (.bl true)] (fun x hx => by rw [List.mem_singleton.mp hx]; show D.bl true ∈ oddE; simp [oddE]) (by simp)
  · exact one [.o (.bl false)] (fun x hx => by rw [List.mem_singleton.mp hx]; show D.bl false ∈ oddE; simp [oddE]) (by simp)
  · exact one [.i 0, .i 2] (fun x hx => by
      simp only [List.mem_cons, List.not_mem_nil, or_false] at hx
      rcases hx with rfl | rfl
      · show (0 : Int).natAbs ≤ 64; omega
      · show (2 : Int).natAbs ≤ 64; omega) (by simp)
  · have e : frz (.lst true [.lst false ((zn a).map D.int)]) = .lst false [.lst false ((zn a).map D.int)] := by
      rw [z_lst]
      show D.lst false [frz (.lst false ((zn a).map D.int))] = _
      rw [frz_of r1.fz]
    rw [e]
    exact r3
theorem thL_ok {a : List Nat} {n : Nat} {a0 : Option D} {rest : S} {E : Ex} {Q : D → S → Prop} (h : IsP a n) (hn : n ≤ 60) (hQ : Q (.lst true (things0 a)) (a0 :: some (.lst false ((zn a).map D.int)) :: rest)) : Wx E (thL (a0 :: some (.lst false ((zn a).map D.int)) :: rest)) Q := by
  have f := frz_ints (ns := zn a)
  have gt := gtup_ints (o := false) (xs := zn a) (by rw [zn_len, h.len]; omega)
  unfold thL
  simp! [f, frzL_of f, gt]
  exact hQ

theorem right_ok {n : Nat} {d : D} (hb : Bx n d) (hn : n ≤ 2 ^ 36) : ∃ d', P__law_right [d] = .ok (.bl true) [d'] ∧ Bx (n + 1000) d' := by
  have key : Cw noC (P__law_right [d]) fun e ds => ∃ d', e = .bl true ∧ ds = [d'] ∧ Bx (n + 1000) d' := by
    refine R__law_right ?_
    rw [cut__law_right]
    simp!
    refine szL_ok hb (by omega) fun c d1 c1 c2 b1 => ?_
    obtain ⟨a, d2, e2, h, b2⟩ := shuf_ok (c := c) b1 (by omega) (by omega) c2
    have z1 := b1.nz
    have z2 := b2.nz
    have f := frz_ints (ns := zn a)
    have la : ((zn a).map D.int).length = c := by rw [List.length_map, zn_len, h.len]
    have gl : gList [.lst false ((zn a).map D.int)] = some (.lst true ((zn a).map D.int)) := glist_ints (by rw [zn_len, h.len]; omega)
    simp! [z1, e2, z2, f, frzL_of f, gl]
    refine thL_ok h c2 ?_
    simp!
    have ok := nat_ok (B := 64) h (by omega)
    have l0 : a.map (fun k : Nat => El.i (k : Int)) ≠ [] := fun e => by
      have e2 := congrArg List.length e
      rw [List.length_map, h.len] at e2
      simp at e2
      omega
    have ll : (a.map (fun k : Nat => El.i (k : Int))).length ≤ 60 := by rw [List.length_map, h.len]; exact c2
    refine Wx_rng (fun i st => ∃ (d' : D) (ts : List D) (a2 a3 : Option D), st = [some d', some (.lst false ((zn a).map D.int)), a2, a3, none, none, some (.lst false ((zn a).map D.int)), some (.lst true ts), none, none, none, none, none] ∧ ts.length = 14 + i ∧ (∀ t ∈ ts, Th (frz t)) ∧ Bx (n + 64 + 20 * i) d') ⟨d2, things0 a, _, _, rfl, rfl, things0_th h c2, Bx.mono b2 (by omega)⟩ ?_ ?_
    · rintro i st hi ⟨d', ts, a2, a3, rfl, lt, ht, hb'⟩
      have hi : i < 12 := by simpa using hi
      have k := bdL_ok (E := noE) (l := a.map (fun k : Nat => El.i (k : Int))) (ts := ts) (a2 := some (.int (0 + (i : Int)))) (a3 := a3) (a4 := none) (a5 := none) (a6 := some (.lst false ((zn a).map D.int))) (a8 := none) (a9 := none) (a10 := none) (a11 := none) (a12 := none) (Q := fun fl st => fl = .nx ∧ ∃ (d' : D) (ts : List D) (a2 a3 : Option D), st = [some d', some (.lst false ((zn a).map D.int)), a2, a3, none, none, some (.lst false ((zn a).map D.int)), some (.lst true ts), none, none, none, none, none] ∧ ts.length = 14 + (i + 1) ∧ (∀ t ∈ ts, Th (frz t)) ∧ Bx (n + 64 + 20 * (i + 1)) d') hb' (by omega) l0 ll ok (by omega) fun d3 x a3 b3 hx => by
        rw [nat_els]
        refine ⟨rfl, d3, _, _, _, rfl, by rw [List.length_append, lt]; simp only [List.length_cons, List.length_nil]; omega, fun t h4 => ?_, Bx.mono b3 (by omega)⟩
        rcases List.mem_append.mp h4 with h4 | h4
        · exact ht t h4
        · rw [List.mem_singleton.mp h4]; exact hx
      rw [nat_els] at k
      refine Wx_mono k fun fl s hs => ?_
      obtain ⟨rfl, hs⟩ := hs
      rw [flow_nx]
      exact hs
    · rintro st ⟨d', ts, a2, a3, rfl, lt, ht, hb'⟩
      simp! [SV.frz]
      refine Wx_for (fun _ st => ∃ a3 a4 a11 : Option D, st = [some d', some (.lst false ((zn a).map D.int)), a2, a3, a4, none, some (.lst false ((zn a).map D.int)), some (.lst false (frzL ts)), none, none, none, a11, none]) ⟨_, _, _, rfl⟩ ?_ ?_
      · rintro i y st hy ⟨a3, a4, a11, rfl⟩
        obtain ⟨t1, h1, rfl⟩ := mem_frzL (List.mem_of_getElem? hy)
        obtain ⟨t, h2, rfl⟩ := mem_frzL h1
        have th := ht t h2
        rw [frz_of th.fz]
        simp!
        refine tsL_ok th fun a4 a11 => ?_
        rw [flow_nx]
        exact ⟨_, _, _, rfl⟩
      · rintro st ⟨a3, a4, a11, rfl⟩
        have f2 := frz_ints (ns := zn (inv a))
        have gt := gtup_ints (o := false) (xs := zn a) (by rw [zn_len, h.len]; omega)
        simp!
        refine ixL_ok h (by omega) ?_
        simp! [f2, frzL_of f2, f, frzL_of f, gt]
        refine Wx_for (fun _ st => ∃ a5 a8 a9 a10 : Option D, st = [some d', some (.lst false ((zn a).map D.int)), a2, a3, some (.lst false ((zn (inv a)).map D.int)), a5, some (.lst false ((zn a).map D.int)), some (.lst false (frzL ts)), a8, a9, a10, a11, none]) ⟨_, _, _, _, rfl⟩ ?_ ?_
        · rintro i y st hy ⟨a5, a8, a9, a10, rfl⟩
          have hr : Row y (zn a) := by
            have hm := List.mem_of_getElem? hy
            simp only [List.mem_cons, List.not_mem_nil, or_false] at hm
            exact hm
          simp!
          refine gvL_ok hr h (by omega) fun a8 a9 a10 => ?_
          rw [flow_nx]
          exact ⟨_, _, _, _, rfl⟩
        · rintro st ⟨a5, a8, a9, a10, rfl⟩
          have z3 := hb'.nz
          simp! [z3]
          exact ⟨_, rfl, Bx.mono hb' (by show n + 64 + 20 * 12 ≤ n + 1000; omega)⟩
  obtain ⟨x, ps, e, d', rfl, rfl, h1⟩ := Cw_ex key
  exact ⟨d', e, h1⟩
theorem law_true : ∀ ns : List Int, ns.length ≤ 63 → (∀ z ∈ ns, Builtin.Int.intBits z ≤ 1048576) → P_law [.ro (ns.map D.int)] = .ok (.bl true) [] := by
  intro ns hns _
  obtain ⟨o, cs, ef, c1, c4⟩ := fold_ok (ns := ns) (N := 4) (by omega) (by omega) (by omega)
  have ef : P__law_folded [.ro (ns.map D.int), .int 4] = .ok (.lst o (cs.map D.int)) [] := ef
  refine Cw_eq (R_law ?_)
  unfold m_law
  simp! [ef, frz_ints']
  refine Wx_rng (fun _ st => ∃ a2 a3 a4, st = [some (.ro (ns.map D.int)), some (.lst false (cs.map D.int)), a2, a3, a4]) ⟨_, _, _, rfl⟩ ?_ ?_
  · rintro k s hk ⟨a2, a3, a4, rfl⟩
    simp at hk
    obtain ⟨d0, e0, b0⟩ := boxL_ok (ns := cs) (k := k) (by omega)
    simp! [e0, Int.zero_add]
    refine Wx_lc (fun i acc st => ∃ d, st = [some (.ro (ns.map D.int)), some (.lst false (cs.map D.int)), some (.int k), some d, none] ∧ Bx (1000 * i) d ∧ acc = List.replicate i (.bl true)) ⟨_, rfl, b0, rfl⟩ ?_ ?_
    · rintro i y acc s hy ⟨d, rfl, hb, rfl⟩
      obtain ⟨hi, rfl⟩ := irange_get hy
      obtain ⟨d', er, hb'⟩ := right_ok hb (by omega)
      simp! [er]
      exact ⟨_, rfl, by rw [show 1000 * (i + 1) = 1000 * i + 1000 by omega]; exact hb', by rw [List.replicate_succ']⟩
    · rintro ds s ⟨d, rfl, hb, rfl⟩
      rw [irange_len]
      have hall : fAll [.lst true (List.replicate (Int.toNat 3) (D.bl true))] = some (.bl true) := (rfl)
      simp! [hall]
      exact ⟨_, _, _, rfl⟩
  · rintro s ⟨a2, a3, a4, rfl⟩
    simp!

end LW
open PySem PySem.W PySem.Calls PyProof.Rows
theorem PySem.Challenge.cw_turnsums_k48_what_orders_are_holds : PySem.Challenge.rw_turnsums_k48_what_orders_are.Holds := by
  w_on; o_law
  refine HandSHeadRun.head_any (r := OpenLaw.row PySem.Challenge.rw_turnsums_k48_what_orders_are) (q := view (OpenLaw.row PySem.Challenge.rw_turnsums_k48_what_orders_are).prog [17]) (H := LW.hk) (ob := LW.ob) (M := 4000) (loose := LW.loose) (d := HandSHeadRun.topDef (OpenLaw.row PySem.Challenge.rw_turnsums_k48_what_orders_are).prog 17) (kwd := []) LW.ob_eq
    (by kernel_rfl) (fun s => by kernel_rfl) LW.run (by kernel_rfl) (by kernel_rfl) (by kernel_rfl) (by rfl) (by first | assumption | decide +kernel) (by decide +kernel) ⟨rfl, rfl, rfl, rfl, rfl, by decide +kernel⟩ ?hw ?hc
  case hw => w_witness2
  case hc =>
    refine SV.walk_G (l := PySem.Challenge.rw_turnsums_k48_what_orders_are) (n := 63) (k := 43) (x := "_law_script") rfl (by decide) (by kernel_rfl) ⟨⟨rfl, by decide, by decide⟩, rfl⟩ ?F
    intro w mg fa h Y G hmg0
    obtain ⟨K, KX, c⟩ := Y
    have hmg : mg ("law" : PySem.Str) = some (.ref fa) := by
      have e : (HandSHeadRun.topDef (OpenLaw.row PySem.Challenge.rw_turnsums_k48_what_orders_are).prog 17).name = ("law" : PySem.Str) := by kernel_rfl
      rw [← e]
      exact hmg0
    exact ⟨K, KX, SV.law_at (LW.facts (P := (PySem.Challenge.rw_turnsums_k48_what_orders_are).prog) (w := w) KX G hmg c) LW.law_true⟩
