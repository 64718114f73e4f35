import PyProof.Rows.All
import HandS.ForMost
import HandS.Exc
import HandS.ExcOwn
import HandS.TryOnly
import HandS.TryMany
import HandS.WordsExc
import HandS.ExcIs
import HandS.IsInst
import KE.RegKIsAll
import HandS.Wide
import HandS.TupAny
import KE.DataCmp
import KE.DataEq
import HandS.Style
import KE.DataIsa
import HandS.WideBits
import HandS.TupLen
import HandS.SuiteRaise
import KE.SortData
import HandS.TupMul
import KE.KDictSum
import KE.KDictCopyH
import HandS.More
import HandS.SetFor
import HandS.SetIn
import HandS.Strs
import HandS.RevTup
import HandS.Rev
import KE.KDictPairs
import HandS.Iter
import PyProof.StrBlock2
import HandS.RaiseMore
import KE.GoesEnum
import PyProof.FitsReplace
import Wide.All
import OpenK.AllK
import Wide.FinOn
import PyProof.EqAt
import PyProof.EqKinds
import PyProof.TupleCall
import PySem.Challenge.RW_pointpurse_k15_whole_drawn_bit_by_bit
section
set_option Elab.async false
set_option linter.all false
set_option maxRecDepth 100000
set_option maxHeartbeats 4000000
/-! the engine, part 1: by-value data, what stands for it, the state of the slots -/
namespace Eng
open PySem PySem.Spec PyProof.Rows L2

/-- the tags: what a locked dict's tag stands for (its address, its epoch) -/
structure Tg where
  P : Program
  w : World
  t : Nat → Addr × Nat
/-- a dict as it stands at an epoch -/
def DictE (g : Tg) (a : Addr) (kvs : List (Key × V)) (ep : Nat) : Heap → Prop := fun h => (∀ H, ObjOk g.P g.w H h a (.dK kvs)) ∧ ∃ o es, h.get? a = some o ∧ o.data = .dict es ep
/-- data by value, never changed -/
inductive D where
  | non | bl (b : Bool) | int (i : Int) | str (x : Str) | lst (xs : List D) | tup (xs : List D)
  | ins (c : Str) (fs : List (Str × D)) | dk (kvs : List (Key × D)) | dt (kvs : List (List Key × D))
  | exn (c : Str) (fs : List (Str × D)) | opq

/-- data that a def owns: its lists and dicts may still change -/
inductive O where
  | v (d : D) | ml (xs : List O) | mt (xs : List O) | mk (kvs : List (Key × O)) | mq (kvs : List (List Key × O)) | mi (p : Bool) (c : Str) (fs : List (Str × O))
  | pin (o : O) | me (n : Nat) (kvs : List (Key × O))

/-- what is known of a caught error at a: its class, its dict -/
def ExAt (a : Addr) (C : Addr) (d : Option Addr) : Heap → Prop := fun h => ∃ o vs, h.get? a = some o ∧ Zc (.ref C) d o ∧ o.data = .fields vs
/-- the dict of an error: none, or one that holds its attributes -/
def ExDict (F : Hp) (d : Option Addr) (fs : List (Str × V)) : Prop := (d = none ∧ fs = []) ∨ ∃ dx, d = some dx ∧ fs ≠ [] ∧ F dx = some (.xd fs)

section
variable (tg : Tg) (K : PySem.W.Frag) (mg : Str → Option Value)
mutual
/-- v stands for d in the frozen heap F -/
inductive Rp (F : Hp) : V → D → Prop
  | non : Rp F .non .non
  | bl (b : Bool) : Rp F (.bl b) (.bl b)
  | int (i : Int) : Rp F (.int i) (.int i)
  | str (x : Str) : Rp F (.str x) (.str x)
  | lst {a : Addr} {xs : List V} {ds : List D} : SqL K F a xs → RpA F xs ds → Rp F (.ref a) (.lst ds)
  | tup {a : Addr} {xs : List V} {ds : List D} : F a = some (.tup xs) → RpA F xs ds → Rp F (.ref a) (.tup ds)
  | ins {a C dx : Addr} {c : Str} {fs : List (Str × V)} {gs : List (Str × D)} : F a = some (.ins C dx fs) → mg c = some (.ref C) → RpF F fs gs → Rp F (.ref a) (.ins c gs)
  | dk {a : Addr} {kvs : List (Key × V)} {ds : List (Key × D)} : Rd F a (.dK kvs) → RpK F kvs ds → Rp F (.ref a) (.dk ds)
  | dt {a : Addr} {kvs : List (List Key × V)} {ds : List (List Key × D)} : Rd F a (.dT kvs) → RpT F kvs ds → Rp F (.ref a) (.dt ds)
  | exn {a C : Addr} {d : Option Addr} {c : Str} {fs : List (Str × V)} {gs : List (Str × D)} : F a = some (.ext (ExAt a C d)) → mg c = some (.ref C) → ExDict F d fs → RpF F fs gs → Rp F (.ref a) (.exn c gs)
  | opq (a : Addr) : Rp F (.ref a) .opq
inductive RpA (F : Hp) : List V → List D → Prop
  | nil : RpA F [] []
  | cons {v : V} {vs : List V} {d : D} {ds : List D} : Rp F v d → RpA F vs ds → RpA F (v :: vs) (d :: ds)
inductive RpF (F : Hp) : List (Str × V) → List (Str × D) → Prop
  | nil : RpF F [] []
  | cons {x : Str} {v : V} {vs : List (Str × V)} {d : D} {ds : List (Str × D)} : Rp F v d → RpF F vs ds → RpF F ((x, v) :: vs) ((x, d) :: ds)
inductive RpK (F : Hp) : List (Key × V) → List (Key × D) → Prop
  | nil : RpK F [] []
  | cons {x : Key} {v : V} {vs : List (Key × V)} {d : D} {ds : List (Key × D)} : Rp F v d → RpK F vs ds → RpK F ((x, v) :: vs) ((x, d) :: ds)
inductive RpT (F : Hp) : List (List Key × V) → List (List Key × D) → Prop
  | nil : RpT F [] []
  | cons {x : List Key} {v : V} {vs : List (List Key × V)} {d : D} {ds : List (List Key × D)} : Rp F v d → RpT F vs ds → RpT F ((x, v) :: vs) ((x, d) :: ds)
end
mutual
/-- v stands for o: its changeable objects stand at A (in H), the rest in F -/
inductive Ow (F H : Hp) : V → O → List Addr → Prop
  | v {v : V} {d : D} : Rp K mg F v d → Ow F H v (.v d) []
  | ml {a : Addr} {xs : List V} {os : List O} {A : List Addr} : H a = some (.lst xs) → OwA F H xs os A → Ow F H (.ref a) (.ml os) (a :: A)
  | mt {a : Addr} {xs : List V} {os : List O} {A : List Addr} : F a = some (.tup xs) → OwA F H xs os A → Ow F H (.ref a) (.mt os) A
  | mk {a : Addr} {kvs : List (Key × V)} {os : List (Key × O)} {A : List Addr} : H a = some (.dK kvs) → OwK F H kvs os A → Ow F H (.ref a) (.mk os) (a :: A)
  | mq {a : Addr} {kvs : List (List Key × V)} {os : List (List Key × O)} {A : List Addr} : H a = some (.dT kvs) → OwT F H kvs os A → Ow F H (.ref a) (.mq os) (a :: A)
  | mi {a C dx : Addr} {p : Bool} {c : Str} {fs : List (Str × V)} {os : List (Str × O)} {A : List Addr} : H a = some (.ins C dx fs) → mg c = some (.ref C) → OwF F H fs os A → Ow F H (.ref a) (.mi p c os) (a :: A)
  | pin {v : V} {o : O} {A : List Addr} : Ow F H v o A → Ow F H v (.pin o) A
  | me {a : Addr} {n : Nat} {kvs : List (Key × V)} {os : List (Key × O)} {A : List Addr} : a = (tg.t n).1 → H a = some (.ext (DictE tg a kvs (tg.t n).2)) → OwK F H kvs os A → Ow F H (.ref a) (.me n os) (a :: A)
inductive OwA (F H : Hp) : List V → List O → List Addr → Prop
  | nil : OwA F H [] [] []
  | cons {v : V} {vs : List V} {o : O} {os : List O} {A B : List Addr} : Ow F H v o A → OwA F H vs os B → OwA F H (v :: vs) (o :: os) (A ++ B)
inductive OwK (F H : Hp) : List (Key × V) → List (Key × O) → List Addr → Prop
  | nil : OwK F H [] [] []
  | cons {x : Key} {v : V} {vs : List (Key × V)} {o : O} {os : List (Key × O)} {A B : List Addr} : Ow F H v o A → OwK F H vs os B → OwK F H ((x, v) :: vs) ((x, o) :: os) (A ++ B)
inductive OwT (F H : Hp) : List (List Key × V) → List (List Key × O) → List Addr → Prop
  | nil : OwT F H [] [] []
  | cons {x : List Key} {v : V} {vs : List (List Key × V)} {o : O} {os : List (List Key × O)} {A B : List Addr} : Ow F H v o A → OwT F H vs os B → OwT F H ((x, v) :: vs) ((x, o) :: os) (A ++ B)
inductive OwF (F H : Hp) : List (Str × V) → List (Str × O) → List Addr → Prop
  | nil : OwF F H [] [] []
  | cons {x : Str} {v : V} {vs : List (Str × V)} {o : O} {os : List (Str × O)} {A B : List Addr} : Ow F H v o A → OwF F H vs os B → OwF F H ((x, v) :: vs) ((x, o) :: os) (A ++ B)
end
end

section
variable {tg : Tg} {K : PySem.W.Frag} {mg : Str → Option Value}
theorem _root_.L2.Same.seqT {K : PySem.W.Frag} {H H' : Hp} {a : Addr} {xs : List V} (e : Same H H') (h : SqT K H a xs) : SqT K H' a xs := by
  rcases h with (h | ⟨o, h⟩) | h
  · exact .inl (.inl (e _ _ h))
  · exact .inl (.inr ⟨o, e _ _ h⟩)
  · exact .inr h
theorem _root_.L2.Same.tq {K : PySem.W.Frag} {H H' : Hp} {a : Addr} {xs : List V} (e : Same H H') (h : H a = some (.tup xs)) : SqT K H' a xs := .inl (.inl (e _ _ h))
theorem Same.rd {F F' : Hp} {a : Addr} {u : HO} (s : Same F F') (h : Rd F a u) : Rd F' a u := by
  rcases h with h | ⟨o, h⟩
  · exact .inl (s _ _ h)
  · exact .inr ⟨o, s _ _ h⟩
mutual
theorem Rp.mono {F F' : Hp} (s : Same F F') : ∀ {v : V} {d : D}, Rp K mg F v d → Rp K mg F' v d
  | _, _, .non => .non
  | _, _, .bl b => .bl b
  | _, _, .int b => .int b
  | _, _, .str b => .str b
  | _, _, .lst h r => .lst (s.seq h) (RpA.mono s r)
  | _, _, .tup h r => .tup (s _ _ h) (RpA.mono s r)
  | _, _, .ins h e r => .ins (s _ _ h) e (RpF.mono s r)
  | _, _, .dk h r => .dk (Same.rd s h) (RpK.mono s r)
  | _, _, .dt h r => .dt (Same.rd s h) (RpT.mono s r)
  | _, _, .exn h e d r => .exn (s _ _ h) e (d.imp id fun ⟨dx, e, n, h⟩ => ⟨dx, e, n, s _ _ h⟩) (RpF.mono s r)
  | _, _, .opq v => .opq v
theorem RpA.mono {F F' : Hp} (s : Same F F') : ∀ {v : List V} {d : List D}, RpA K mg F v d → RpA K mg F' v d
  | _, _, .nil => .nil
  | _, _, .cons r t => .cons (Rp.mono s r) (RpA.mono s t)
theorem RpF.mono {F F' : Hp} (s : Same F F') : ∀ {v : List (Str × V)} {d : List (Str × D)}, RpF K mg F v d → RpF K mg F' v d
  | _, _, .nil => .nil
  | _, _, .cons r t => .cons (Rp.mono s r) (RpF.mono s t)
theorem RpK.mono {F F' : Hp} (s : Same F F') : ∀ {v : List (Key × V)} {d : List (Key × D)}, RpK K mg F v d → RpK K mg F' v d
  | _, _, .nil => .nil
  | _, _, .cons r t => .cons (Rp.mono s r) (RpK.mono s t)
theorem RpT.mono {F F' : Hp} (s : Same F F') : ∀ {v : List (List Key × V)} {d : List (List Key × D)}, RpT K mg F v d → RpT K mg F' v d
  | _, _, .nil => .nil
  | _, _, .cons r t => .cons (Rp.mono s r) (RpT.mono s t)
end
mutual
theorem Ow.mono {F F' H H' : Hp} (s : Same F F') : ∀ {v : V} {o : O} {A : List Addr}, (∀ a ∈ A, H' a = H a) → Ow tg K mg F H v o A → Ow tg K mg F' H' v o A
  | _, _, _, _, .v r => .v (Rp.mono s r)
  | _, _, _, hA, .ml h r => .ml ((hA _ List.mem_cons_self).trans h) (OwA.mono s (fun a m => hA a (List.mem_cons_of_mem _ m)) r)
  | _, _, _, hA, .mt h r => .mt (s _ _ h) (OwA.mono s hA r)
  | _, _, _, hA, .mk h r => .mk ((hA _ List.mem_cons_self).trans h) (OwK.mono s (fun a m => hA a (List.mem_cons_of_mem _ m)) r)
  | _, _, _, hA, .mq h r => .mq ((hA _ List.mem_cons_self).trans h) (OwT.mono s (fun a m => hA a (List.mem_cons_of_mem _ m)) r)
  | _, _, _, hA, .mi h e r => .mi ((hA _ List.mem_cons_self).trans h) e (OwF.mono s (fun a m => hA a (List.mem_cons_of_mem _ m)) r)
  | _, _, _, hA, .pin r => .pin (Ow.mono s hA r)
  | _, _, _, hA, .me e h r => .me e (by rw [hA _ List.mem_cons_self]; exact h) (OwK.mono s (fun a m => hA a (List.mem_cons_of_mem _ m)) r)
theorem OwA.mono {F F' H H' : Hp} (s : Same F F') : ∀ {v : List V} {o : List O} {A : List Addr}, (∀ a ∈ A, H' a = H a) → OwA tg K mg F H v o A → OwA tg K mg F' H' v o A
  | _, _, _, _, .nil => .nil
  | _, _, _, hA, .cons r t => .cons (Ow.mono s (fun a m => hA a (List.mem_append_left _ m)) r) (OwA.mono s (fun a m => hA a (List.mem_append_right _ m)) t)
theorem OwK.mono {F F' H H' : Hp} (s : Same F F') : ∀ {v : List (Key × V)} {o : List (Key × O)} {A : List Addr}, (∀ a ∈ A, H' a = H a) → OwK tg K mg F H v o A → OwK tg K mg F' H' v o A
  | _, _, _, _, .nil => .nil
  | _, _, _, hA, .cons r t => .cons (Ow.mono s (fun a m => hA a (List.mem_append_left _ m)) r) (OwK.mono s (fun a m => hA a (List.mem_append_right _ m)) t)
theorem OwT.mono {F F' H H' : Hp} (s : Same F F') : ∀ {v : List (List Key × V)} {o : List (List Key × O)} {A : List Addr}, (∀ a ∈ A, H' a = H a) → OwT tg K mg F H v o A → OwT tg K mg F' H' v o A
  | _, _, _, _, .nil => .nil
  | _, _, _, hA, .cons r t => .cons (Ow.mono s (fun a m => hA a (List.mem_append_left _ m)) r) (OwT.mono s (fun a m => hA a (List.mem_append_right _ m)) t)
theorem OwF.mono {F F' H H' : Hp} (s : Same F F') : ∀ {v : List (Str × V)} {o : List (Str × O)} {A : List Addr}, (∀ a ∈ A, H' a = H a) → OwF tg K mg F H v o A → OwF tg K mg F' H' v o A
  | _, _, _, _, .nil => .nil
  | _, _, _, hA, .cons r t => .cons (Ow.mono s (fun a m => hA a (List.mem_append_left _ m)) r) (OwF.mono s (fun a m => hA a (List.mem_append_right _ m)) t)
end
end

/-! ### freezing -/
mutual
def O.fr : O → D
  | .v d => d
  | .ml xs => .lst (O.frA xs)
  | .mt xs => .tup (O.frA xs)
  | .mk kvs => .dk (O.frK kvs)
  | .mq kvs => .dt (O.frT kvs)
  | .mi _ c fs => .ins c (O.frF fs)
  | .pin o => o.fr
  | .me _ _ => .opq
def O.frA : List O → List D
  | [] => []
  | o :: os => o.fr :: O.frA os
def O.frK : List (Key × O) → List (Key × D)
  | [] => []
  | (k, o) :: os => (k, o.fr) :: O.frK os
def O.frT : List (List Key × O) → List (List Key × D)
  | [] => []
  | (k, o) :: os => (k, o.fr) :: O.frT os
def O.frF : List (Str × O) → List (Str × D)
  | [] => []
  | (k, o) :: os => (k, o.fr) :: O.frF os
end
/-- H's objects at A joined to F -/
def join (F H : Hp) (A : List Addr) : Hp := fun a => if a ∈ A then H a else F a
section
variable {tg : Tg} {K : PySem.W.Frag} {mg : Str → Option Value} {F H : Hp}
theorem join_mem {A : List Addr} {a : Addr} (h : a ∈ A) : join F H A a = H a := if_pos h
theorem join_not {A : List Addr} {a : Addr} (h : a ∉ A) : join F H A a = F a := if_neg h
theorem join_same {A : List Addr} (h : ∀ a ∈ A, F a = none) : Same F (join F H A) := fun a o e => by
  rw [join_not (fun m => by rw [h a m] at e; cases e)]; exact e
theorem join_le {A : List Addr} (h : Same F H) : Same (join F H A) H := fun a o e => by
  unfold join at e; split at e
  · exact e
  · exact h a o e
mutual
theorem Ow.fr : ∀ {v : V} {o : O} {A B : List Addr}, (∀ a ∈ B, F a = none) → (∀ a ∈ A, a ∈ B) → Ow tg K mg F H v o A → Rp K mg (join F H B) v o.fr
  | _, _, _, B, hB, _, .v r => Rp.mono (join_same hB) r
  | _, _, _, B, hB, hA, .ml h r => by
    unfold O.fr
    exact .lst (.inl (.inl ((join_mem (hA _ List.mem_cons_self)).trans h))) (OwA.fr hB (fun a m => hA a (List.mem_cons_of_mem _ m)) r)
  | _, _, _, B, hB, hA, .mt h r => by
    unfold O.fr
    exact .tup ((join_same hB) _ _ h) (OwA.fr hB hA r)
  | _, _, _, B, hB, hA, .mk h r => by
    unfold O.fr
    exact .dk (.inl ((join_mem (hA _ List.mem_cons_self)).trans h)) (OwK.fr hB (fun a m => hA a (List.mem_cons_of_mem _ m)) r)
  | _, _, _, B, hB, hA, .mq h r => by
    unfold O.fr
    exact .dt (.inl ((join_mem (hA _ List.mem_cons_self)).trans h)) (OwT.fr hB (fun a m => hA a (List.mem_cons_of_mem _ m)) r)
  | _, _, _, B, hB, hA, .mi h e r => by
    unfold O.fr
    exact .ins ((join_mem (hA _ List.mem_cons_self)).trans h) e (OwF.fr hB (fun a m => hA a (List.mem_cons_of_mem _ m)) r)
  | _, _, _, B, hB, hA, .pin r => by
    unfold O.fr
    exact Ow.fr hB hA r
  | _, _, _, B, hB, hA, .me e h r => by
    unfold O.fr
    exact .opq _
theorem OwA.fr : ∀ {v : List V} {o : List O} {A B : List Addr}, (∀ a ∈ B, F a = none) → (∀ a ∈ A, a ∈ B) → OwA tg K mg F H v o A → RpA K mg (join F H B) v (O.frA o)
  | _, _, _, _, _, _, .nil => .nil
  | _, _, _, _, hB, hA, .cons r t => .cons (Ow.fr hB (fun a m => hA a (List.mem_append_left _ m)) r) (OwA.fr hB (fun a m => hA a (List.mem_append_right _ m)) t)
theorem OwK.fr : ∀ {v : List (Key × V)} {o : List (Key × O)} {A B : List Addr}, (∀ a ∈ B, F a = none) → (∀ a ∈ A, a ∈ B) → OwK tg K mg F H v o A → RpK K mg (join F H B) v (O.frK o)
  | _, _, _, _, _, _, .nil => .nil
  | _, _, _, _, hB, hA, .cons r t => .cons (Ow.fr hB (fun a m => hA a (List.mem_append_left _ m)) r) (OwK.fr hB (fun a m => hA a (List.mem_append_right _ m)) t)
theorem OwT.fr : ∀ {v : List (List Key × V)} {o : List (List Key × O)} {A B : List Addr}, (∀ a ∈ B, F a = none) → (∀ a ∈ A, a ∈ B) → OwT tg K mg F H v o A → RpT K mg (join F H B) v (O.frT o)
  | _, _, _, _, _, _, .nil => .nil
  | _, _, _, _, hB, hA, .cons r t => .cons (Ow.fr hB (fun a m => hA a (List.mem_append_left _ m)) r) (OwT.fr hB (fun a m => hA a (List.mem_append_right _ m)) t)
theorem OwF.fr : ∀ {v : List (Str × V)} {o : List (Str × O)} {A B : List Addr}, (∀ a ∈ B, F a = none) → (∀ a ∈ A, a ∈ B) → OwF tg K mg F H v o A → RpF K mg (join F H B) v (O.frF o)
  | _, _, _, _, _, _, .nil => .nil
  | _, _, _, _, hB, hA, .cons r t => .cons (Ow.fr hB (fun a m => hA a (List.mem_append_left _ m)) r) (OwF.fr hB (fun a m => hA a (List.mem_append_right _ m)) t)
end
/-- an owned thing is tracked -/
theorem Ow.some : ∀ {v : V} {o : O} {A : List Addr}, Ow tg K mg F H v o A → ∀ a ∈ A, ∃ u, H a = Option.some u := by
  intro v o A h
  exact Ow.rec (tg := tg) (K := K) (mg := mg) (F := F) (H := H) (motive_1 := fun _ _ A _ => ∀ a ∈ A, ∃ u, H a = Option.some u) (motive_2 := fun _ _ A _ => ∀ a ∈ A, ∃ u, H a = Option.some u)
    (motive_3 := fun _ _ A _ => ∀ a ∈ A, ∃ u, H a = Option.some u) (motive_4 := fun _ _ A _ => ∀ a ∈ A, ∃ u, H a = Option.some u) (motive_5 := fun _ _ A _ => ∀ a ∈ A, ∃ u, H a = Option.some u)
    (fun _ a m => nomatch m)
    (fun h _ ih a m => by rcases List.mem_cons.mp m with rfl | m; exact ⟨_, h⟩; exact ih a m)
    (fun h _ ih a m => ih a m)
    (fun h _ ih a m => by rcases List.mem_cons.mp m with rfl | m; exact ⟨_, h⟩; exact ih a m)
    (fun h _ ih a m => by rcases List.mem_cons.mp m with rfl | m; exact ⟨_, h⟩; exact ih a m)
    (fun h _ _ ih a m => by rcases List.mem_cons.mp m with rfl | m; exact ⟨_, h⟩; exact ih a m)
    (fun _ ih a m => ih a m)
    (fun _ h _ ih a m => by rcases List.mem_cons.mp m with rfl | m; exact ⟨_, h⟩; exact ih a m)
    (fun a m => nomatch m) (fun _ _ i1 i2 a m => by rcases List.mem_append.mp m with m | m; exact i1 a m; exact i2 a m)
    (fun a m => nomatch m) (fun _ _ i1 i2 a m => by rcases List.mem_append.mp m with m | m; exact i1 a m; exact i2 a m)
    (fun a m => nomatch m) (fun _ _ i1 i2 a m => by rcases List.mem_append.mp m with m | m; exact i1 a m; exact i2 a m)
    (fun a m => nomatch m) (fun _ _ i1 i2 a m => by rcases List.mem_append.mp m with m | m; exact i1 a m; exact i2 a m) h
/-- what stands at an owned address can change -/
def MutO : HO → Prop | .lst _ => True | .dK _ => True | .dT _ => True | .ins _ _ _ => True | .ext _ => True | _ => False
theorem Ow.mut : ∀ {v : V} {o : O} {A : List Addr}, Ow tg K mg F H v o A → ∀ a ∈ A, ∃ u, H a = Option.some u ∧ MutO u := by
  intro v o A h
  exact Ow.rec (tg := tg) (K := K) (mg := mg) (F := F) (H := H) (motive_1 := fun _ _ A _ => ∀ a ∈ A, ∃ u, H a = Option.some u ∧ MutO u) (motive_2 := fun _ _ A _ => ∀ a ∈ A, ∃ u, H a = Option.some u ∧ MutO u)
    (motive_3 := fun _ _ A _ => ∀ a ∈ A, ∃ u, H a = Option.some u ∧ MutO u) (motive_4 := fun _ _ A _ => ∀ a ∈ A, ∃ u, H a = Option.some u ∧ MutO u) (motive_5 := fun _ _ A _ => ∀ a ∈ A, ∃ u, H a = Option.some u ∧ MutO u)
    (fun _ a m => nomatch m)
    (fun h _ ih a m => by rcases List.mem_cons.mp m with rfl | m; exact ⟨_, h, trivial⟩; exact ih a m)
    (fun h _ ih a m => ih a m)
    (fun h _ ih a m => by rcases List.mem_cons.mp m with rfl | m; exact ⟨_, h, trivial⟩; exact ih a m)
    (fun h _ ih a m => by rcases List.mem_cons.mp m with rfl | m; exact ⟨_, h, trivial⟩; exact ih a m)
    (fun h _ _ ih a m => by rcases List.mem_cons.mp m with rfl | m; exact ⟨_, h, trivial⟩; exact ih a m)
    (fun _ ih a m => ih a m)
    (fun _ h _ ih a m => by rcases List.mem_cons.mp m with rfl | m; exact ⟨_, h, trivial⟩; exact ih a m)
    (fun a m => nomatch m) (fun _ _ i1 i2 a m => by rcases List.mem_append.mp m with m | m; exact i1 a m; exact i2 a m)
    (fun a m => nomatch m) (fun _ _ i1 i2 a m => by rcases List.mem_append.mp m with m | m; exact i1 a m; exact i2 a m)
    (fun a m => nomatch m) (fun _ _ i1 i2 a m => by rcases List.mem_append.mp m with m | m; exact i1 a m; exact i2 a m)
    (fun a m => nomatch m) (fun _ _ i1 i2 a m => by rcases List.mem_append.mp m with m | m; exact i1 a m; exact i2 a m) h
end
end Eng

end
section
set_option Elab.async false
set_option linter.all false
set_option maxRecDepth 100000
set_option maxHeartbeats 4000000
/-! the engine, part 2: the slots, the judgements -/
namespace Eng
open PySem PySem.Spec PyProof.Rows L2

abbrev Sl := List (Option O)
/-- what a step gives: a value, a refusal (the class's name), or nothing known -/
inductive R (α : Type) where
  | ok (a : α) | exc (c : Str) | stuck
def R.bind {α β : Type} (m : R α) (f : α → R β) : R β := match m with | .ok a => f a | .exc c => .exc c | .stuck => .stuck
instance : Monad R where
  pure := .ok
  bind := R.bind
/-- what a statement gives -/
inductive RS where
  | next (L : Sl) | ret (o : O) (L : Sl) | brk (L : Sl) | cont (L : Sl) | exc (c : Str) (L : Sl) | stuck

/-- the slots -/
inductive OwS (tg : Tg) (K : PySem.W.Frag) (mg : Str → Option Value) (F H : Hp) : L2.St → Sl → List Addr → Prop
  | nil : OwS tg K mg F H [] [] []
  | none {x : Option V} {σ : L2.St} {L : Sl} {A : List Addr} : OwS tg K mg F H σ L A → OwS tg K mg F H (x :: σ) (none :: L) A
  | some {v : V} {o : O} {σ : L2.St} {L : Sl} {A B : List Addr} : Ow tg K mg F H v o A → OwS tg K mg F H σ L B → OwS tg K mg F H (some v :: σ) (some o :: L) (A ++ B)
section
variable {tg : Tg} {K : PySem.W.Frag} {mg : Str → Option Value} {F F' H H' : Hp}
theorem OwS.mono (s : Same F F') : ∀ {σ : L2.St} {L : Sl} {A : List Addr}, (∀ a ∈ A, H' a = H a) → OwS tg K mg F H σ L A → OwS tg K mg F' H' σ L A
  | _, _, _, _, .nil => .nil
  | _, _, _, h, .none t => .none (OwS.mono s h t)
  | _, _, _, h, .some r t => .some (Ow.mono s (fun a m => h a (List.mem_append_left _ m)) r) (OwS.mono s (fun a m => h a (List.mem_append_right _ m)) t)
theorem OwS.len : ∀ {σ : L2.St} {L : Sl} {A : List Addr}, OwS tg K mg F H σ L A → σ.length = L.length
  | _, _, _, .nil => rfl
  | _, _, _, .none t => congrArg (· + 1) (OwS.len t)
  | _, _, _, .some _ t => congrArg (· + 1) (OwS.len t)
theorem OwS.tracked : ∀ {σ : L2.St} {L : Sl} {A : List Addr}, OwS tg K mg F H σ L A → ∀ a ∈ A, ∃ u, H a = Option.some u
  | _, _, _, .nil => fun _ m => nomatch m
  | _, _, _, .none t => OwS.tracked t
  | _, _, _, .some r t => fun a m => by
    rcases List.mem_append.mp m with m | m
    · exact Ow.some r a m
    · exact OwS.tracked t a m
theorem OwS.mut : ∀ {σ : L2.St} {L : Sl} {A : List Addr}, OwS tg K mg F H σ L A → ∀ a ∈ A, ∃ u, H a = Option.some u ∧ MutO u
  | _, _, _, .nil => fun _ m => nomatch m
  | _, _, _, .none t => OwS.mut t
  | _, _, _, .some r t => fun a m => (List.mem_append.mp m).elim (Ow.mut r a) (OwS.mut t a)
/-- one slot looked at, and changed -/
theorem OwS.get : ∀ {σ : L2.St} {L : Sl} {A : List Addr} {i : Nat} {o : O}, OwS tg K mg F H σ L A → L[i]? = Option.some (Option.some o) →
    ∃ v A1 Ai A2, σ[i]? = Option.some (Option.some v) ∧ Ow tg K mg F H v o Ai ∧ A = A1 ++ Ai ++ A2 ∧
      ∀ (F' H' : Hp) (v' : V) (o' : O) (Ai' : List Addr), Same F F' → (∀ a, a ∈ A1 ∨ a ∈ A2 → H' a = H a) → Ow tg K mg F' H' v' o' Ai' → OwS tg K mg F' H' (σ.set i (Option.some v')) (L.set i (Option.some o')) (A1 ++ Ai' ++ A2)
  | _, _, _, i, o, .nil, h => by simp at h
  | _, _, _, 0, o, .none t, h => by simp at h
  | _, _, _, i + 1, o, .none t, h => by
    obtain ⟨v, A1, Ai, A2, h1, h2, h3, h4⟩ := OwS.get (i := i) t (by simpa using h)
    exact ⟨v, A1, Ai, A2, by simpa using h1, h2, h3, fun F' H' v' o' Ai' a b c => .none (h4 F' H' v' o' Ai' a b c)⟩
  | _, _, _, 0, o, .some (A := A0) (B := B0) r t, h => by
    simp at h; subst h
    refine ⟨_, [], A0, B0, rfl, r, by simp, fun F' H' v' o' Ai' a b c => ?_⟩
    exact .some c (OwS.mono a (fun a m => b a (Or.inr m)) t)
  | _, _, _, i + 1, o, .some (A := A0) r t, h => by
    obtain ⟨v, A1, Ai, A2, h1, h2, h3, h4⟩ := OwS.get (i := i) t (by simpa using h)
    refine ⟨v, A0 ++ A1, Ai, A2, by simpa using h1, h2, by rw [h3]; simp, fun F' H' v' o' Ai' a b c => ?_⟩
    have := OwS.some (Ow.mono a (fun x m => b x (Or.inl (List.mem_append_left _ m))) r) (h4 F' H' v' o' Ai' a (fun x m => b x (m.imp (fun z => List.mem_append_right _ z) id)) c)
    simpa using this
/-- a slot's thing taken out -/
theorem OwS.take : ∀ {σ : L2.St} {L : Sl} {A : List Addr} {i : Nat} {o : O}, OwS tg K mg F H σ L A → L[i]? = Option.some (Option.some o) →
    ∃ v A1 Ai A2, σ[i]? = Option.some (Option.some v) ∧ Ow tg K mg F H v o Ai ∧ A = A1 ++ Ai ++ A2 ∧ OwS tg K mg F H σ (L.set i Option.none) (A1 ++ A2)
  | _, _, _, i, o, .nil, h => by simp at h
  | _, _, _, 0, o, .none t, h => by simp at h
  | _, _, _, i + 1, o, .none t, h => by
    obtain ⟨v, A1, Ai, A2, h1, h2, h3, h4⟩ := OwS.take (i := i) t (by simpa using h)
    exact ⟨v, A1, Ai, A2, by simpa using h1, h2, h3, .none h4⟩
  | _, _, _, 0, o, .some (A := A0) (B := B0) r t, h => by
    simp at h; subst h
    exact ⟨_, [], A0, B0, rfl, r, by simp, .none t⟩
  | _, _, _, i + 1, o, .some (A := A0) r t, h => by
    obtain ⟨v, A1, Ai, A2, h1, h2, h3, h4⟩ := OwS.take (i := i) t (by simpa using h)
    exact ⟨v, A0 ++ A1, Ai, A2, by simpa using h1, h2, by rw [h3]; simp, by rw [List.append_assoc]; exact .some r h4⟩
/-- a slot written, whatever it held: its part of A is dropped -/
theorem OwS.put : ∀ {σ : L2.St} {L : Sl} {A : List Addr} {i : Nat} {v : V} {o : O} {B : List Addr}, OwS tg K mg F H σ L A → i < L.length → Ow tg K mg F H v o B →
    ∃ A', OwS tg K mg F H (σ.set i (Option.some v)) (L.set i (Option.some o)) A' ∧ (∀ a ∈ A', a ∈ A ∨ a ∈ B) ∧ (A.Nodup → B.Nodup → (∀ a ∈ B, a ∉ A) → A'.Nodup)
  | _, _, _, i, v, o, B, .nil, h, r => by simp at h
  | _, _, _, 0, v, o, B, .none (A := A0) t, h, r => by
    refine ⟨B ++ A0, .some r t, fun a m => (List.mem_append.mp m).symm, fun n1 n2 d => ?_⟩
    exact List.nodup_append.mpr ⟨n2, n1, fun a ha b hb e => d a ha (e ▸ hb)⟩
  | _, _, _, i + 1, v, o, B, .none (A := A0) t, h, r => by
    obtain ⟨A', h1, h2, h3⟩ := OwS.put (i := i) t (by simpa using h) r
    exact ⟨A', .none h1, h2, h3⟩
  | _, _, _, 0, v, o, B, .some (A := A0) (B := B0) q t, h, r => by
    refine ⟨B ++ B0, .some r t, fun a m => ?_, fun n1 n2 d => ?_⟩
    · rcases List.mem_append.mp m with m | m
      · exact .inr m
      · exact .inl (List.mem_append_right _ m)
    · exact List.nodup_append.mpr ⟨n2, (List.nodup_append.mp n1).2.1, fun a ha b hb e => d a ha (List.mem_append_right _ (e ▸ hb))⟩
  | _, _, _, i + 1, v, o, B, .some (A := A0) (B := B0) q t, h, r => by
    obtain ⟨A', h1, h2, h3⟩ := OwS.put (i := i) t (by simpa using h) r
    refine ⟨A0 ++ A', .some q h1, fun a m => ?_, fun n1 n2 d => ?_⟩
    · rcases List.mem_append.mp m with m | m
      · exact .inl (List.mem_append_left _ m)
      · exact (h2 a m).imp (List.mem_append_right _) id
    · obtain ⟨m1, m2, m3⟩ := List.nodup_append.mp n1
      refine List.nodup_append.mpr ⟨m1, h3 m2 n2 (fun a ha z => d a ha (List.mem_append_right _ z)), fun a ha b hb e => ?_⟩
      rcases h2 b hb with z | z
      · exact m3 a ha b z e
      · exact d b z (List.mem_append_left _ (e ▸ ha))
/-- a slot's value forgotten in L -/
theorem OwS.drop : ∀ {σ : L2.St} {L : Sl} {A : List Addr} (i : Nat) (x : Option V), OwS tg K mg F H σ L A →
    ∃ A', OwS tg K mg F H (σ.set i x) (L.set i Option.none) A' ∧ (∀ a ∈ A', a ∈ A) ∧ (A.Nodup → A'.Nodup)
  | _, _, _, i, x, .nil => ⟨[], by simpa using OwS.nil, fun _ m => m, id⟩
  | _, _, _, 0, x, .none (A := A0) t => ⟨A0, .none t, fun _ m => m, id⟩
  | _, _, _, i + 1, x, .none t => by
    obtain ⟨A', h1, h2, h3⟩ := OwS.drop i x t
    exact ⟨A', .none h1, h2, h3⟩
  | _, _, _, 0, x, .some (B := B0) q t => ⟨B0, .none t, fun a m => List.mem_append_right _ m, fun n => (List.nodup_append.mp n).2.1⟩
  | _, _, _, i + 1, x, .some (A := A0) q t => by
    obtain ⟨A', h1, h2, h3⟩ := OwS.drop i x t
    refine ⟨A0 ++ A', .some q h1, fun a m => ?_, fun n => ?_⟩
    · rcases List.mem_append.mp m with m | m
      · exact List.mem_append_left _ m
      · exact List.mem_append_right _ (h2 a m)
    · obtain ⟨m1, m2, m3⟩ := List.nodup_append.mp n
      exact List.nodup_append.mpr ⟨m1, h3 m2, fun a ha b hb e => m3 a ha b (h2 b hb) e⟩
end

/-- the ground: what the top has left -/
structure Gd where
  P : Program
  w : World
  K : PySem.W.Frag
  mg : Str → Option Value
  base : Heap
  t : Nat → Addr × Nat := fun _ => (0, 0)
def Gd.tg (G : Gd) : Tg := ⟨G.P, G.w, G.t⟩
/-- .. with other tags -/
abbrev Gd.wt (G : Gd) (t : Nat → Addr × Nat) : Gd := { G with t := t }

/-- what stands at a is no tuple -/
def Nt (H : Hp) (a : Addr) : Prop := H a ≠ none ∧ ∀ xs, H a ≠ some (.tup xs)
theorem nt_of {H : Hp} {a : Addr} {u : HO} (e : H a = some u) (h : ∀ xs, u ≠ .tup xs) : Nt H a := ⟨fun z => (nomatch e.symm.trans z), fun xs z => h xs (Option.some.inj (e.symm.trans z))⟩
theorem nt_mono {H H' : Hp} {a : Addr} (s : Same H H') (n : Nt H a) : Nt H' a := by
  cases e : H a with
  | none => exact absurd e n.1
  | some u => exact nt_of (s _ _ e) fun xs z => n.2 xs (by rw [e, z])
/-- the ground of a def: the heap at its entry (what it must leave), the slots of what it was lent (a slot, an address) -/
structure Bd where
  h : Hp
  p : List (Nat × Addr)
/-- a slot that holds what was lent -/
def isPin (L : Sl) (i : Nat) : Bool := match L[i]? with | some (some (.mi p _ _)) => p | some (some (.pin _)) => true | _ => false
def okSet (L : Sl) (i : Nat) : Bool := decide (i < L.length) && !isPin L i
theorem okSet_of {L : Sl} {i : Nat} (h : okSet L i = true) : i < L.length ∧ isPin L i = false := by
  unfold okSet at h
  rw [Bool.and_eq_true] at h
  exact ⟨of_decide_eq_true h.1, by simpa using h.2⟩
/-- the state: B the ground, F0 what of it may be read as it stands -/
structure Rl (G : Gd) (B : Bd) (F0 : Hp) (L : Sl) (F : Hp) (A : List Addr) (σ : L2.St) (H : Hp) : Prop where
  os : OwS G.tg G.K G.mg F H σ L A
  nd : A.Nodup
  sf : Same F H
  f0 : Same F0 F
  sb : Same B.h H
  fb : ∀ a, F0 a = none → Nt B.h a → F a = none
  fa : ∀ a ∈ A, F a = none ∧ B.h a = none
  pn : ∀ q ∈ B.p, σ[q.1]? = some (some (.ref q.2)) ∧ isPin L q.1 = true
/-- .. where what was frozen in F stays so -/
def Rel (G : Gd) (B : Bd) (F0 F : Hp) (L : Sl) (σ : L2.St) (H : Hp) : Prop := ∃ F' A', Same F F' ∧ Rl G B F0 L F' A' σ H
theorem pin_set {L : Sl} {i j : Nat} {x : Option O} (h : isPin L i = false) (hj : isPin L j = true) : i ≠ j ∧ isPin (L.set i x) j = true := by
  have : i ≠ j := fun e => by rw [e, hj] at h; cases h
  refine ⟨this, ?_⟩
  unfold isPin at hj ⊢
  rw [List.getElem?_set_ne this]; exact hj
section
variable {G : Gd} {B : Bd} {F0 F H : Hp} {L : Sl} {A : List Addr} {σ : L2.St}
theorem pn_set {i : Nat} {x : Option O} {y : Option V} (hp : isPin L i = false) (h : ∀ q ∈ B.p, σ[q.1]? = some (some (.ref q.2)) ∧ isPin L q.1 = true) : ∀ q ∈ B.p, (σ.set i y)[q.1]? = some (some (.ref q.2)) ∧ isPin (L.set i x) q.1 = true := fun q m => by
  obtain ⟨h1, h2⟩ := h q m
  obtain ⟨n, h3⟩ := pin_set (x := x) hp h2
  exact ⟨by rw [List.getElem?_set_ne n]; exact h1, h3⟩
/-- a new object, frozen at once -/
theorem Rl.frz (R : Rl G B F0 L F A σ H) {p : Addr} (o : HO) (hp : H p = none) : Same F (upd F p o) ∧ Rl G B F0 L (upd F p o) A σ (upd H p o) := by
  have pF : F p = none := R.sf.free hp
  have pA : p ∉ A := fun m => by obtain ⟨u, e⟩ := R.os.tracked p m; rw [hp] at e; cases e
  have s1 : Same F (upd F p o) := fun a u e => by rw [upd_ne (ne_of_none e pF)]; exact e
  refine ⟨s1, R.os.mono s1 (fun a m => upd_ne (fun e => pA (e ▸ m))), R.nd, fun a u e => ?_, R.f0.trans s1, fun a u e => ?_, fun a h0 h1 => ?_, fun a m => ?_, R.pn⟩
  · by_cases h : a = p
    · subst h; rw [upd_same] at e ⊢; exact e
    · rw [upd_ne h] at e ⊢; exact R.sf _ _ e
  · rw [upd_ne (ne_of_none e (R.sb.free hp))]; exact R.sb _ _ e
  · have : a ≠ p := fun e => h1.1 (e ▸ R.sb.free hp)
    rw [upd_ne this]; exact R.fb a h0 h1
  · rw [upd_ne (fun (e : a = p) => pA (e ▸ m))]; exact R.fa a m
/-- nothing but new objects have come (a call's end): frozen parts F' -/
theorem Rl.grow (R : Rl G B F0 L F A σ H) {F' H' : Hp} (sH : Same H H') (sF : Same F F') (le : Same F' H') (hf : ∀ a, F a = none → Nt H a → F' a = none) : Rl G B F0 L F' A σ H' := by
  refine ⟨R.os.mono sF (fun a m => ?_), R.nd, le, R.f0.trans sF, R.sb.trans sH, fun a h0 h1 => ?_, fun a m => ⟨?_, (R.fa a m).2⟩, R.pn⟩
  · obtain ⟨u, e⟩ := R.os.tracked a m
    rw [e]; exact sH _ _ e
  · exact hf a (R.fb a h0 h1) (nt_mono R.sb h1)
  · obtain ⟨u, e, mu⟩ := R.os.mut a m
    exact hf a (R.fa a m).1 (nt_of e fun xs z => by subst z; exact mu)
/-- a slot written by a frozen value -/
theorem Rl.set (R : Rl G B F0 L F A σ H) {i : Nat} {v : V} {d : D} (hi : i < L.length) (hp : isPin L i = false) (r : Rp G.K G.mg F v d) : ∃ A', Rl G B F0 (L.set i (some (.v d))) F A' (σ.set i (some v)) H := by
  obtain ⟨A', h1, h2, h3⟩ := R.os.put hi (.v r)
  have hs : ∀ a ∈ A', a ∈ A := fun a m => (h2 a m).elim id fun z => nomatch z
  exact ⟨A', h1, h3 R.nd List.nodup_nil (fun _ z => nomatch z), R.sf, R.f0, R.sb, R.fb, fun a m => R.fa a (hs a m), pn_set hp R.pn⟩
theorem Rl.set' (R : Rl G B F0 L F A σ H) {i : Nat} {v : V} {d : D} (hi : i < L.length) (hp : isPin L i = false) (r : Rp G.K G.mg F v d) : ∃ A', (∀ a ∈ A', a ∈ A) ∧ Rl G B F0 (L.set i (some (.v d))) F A' (σ.set i (some v)) H := by
  obtain ⟨A', h1, h2, h3⟩ := R.os.put hi (.v r)
  have hs : ∀ a ∈ A', a ∈ A := fun a m => (h2 a m).elim id fun z => nomatch z
  exact ⟨A', hs, h1, h3 R.nd List.nodup_nil (fun _ z => nomatch z), R.sf, R.f0, R.sb, R.fb, fun a m => R.fa a (hs a m), pn_set hp R.pn⟩
/-- a slot written by an owned value -/
theorem Rl.setO (R : Rl G B F0 L F A σ H) {i : Nat} {v : V} {o : O} {C : List Addr} (hi : i < L.length) (hp : isPin L i = false) (r : Ow G.tg G.K G.mg F H v o C) (nC : C.Nodup) (dC : ∀ a ∈ C, a ∉ A) (fC : ∀ a ∈ C, F a = none ∧ B.h a = none) : ∃ A', Rl G B F0 (L.set i (some o)) F A' (σ.set i (some v)) H := by
  obtain ⟨A', h1, h2, h3⟩ := R.os.put hi r
  exact ⟨A', h1, h3 R.nd nC dC, R.sf, R.f0, R.sb, R.fb, fun a m => (h2 a m).elim (R.fa a) (fC a), pn_set hp R.pn⟩
theorem Rl.drop (R : Rl G B F0 L F A σ H) (i : Nat) (x : Option V) (hp : isPin L i = false) : ∃ A', (∀ a ∈ A', a ∈ A) ∧ Rl G B F0 (L.set i none) F A' (σ.set i x) H := by
  obtain ⟨A', h1, h2, h3⟩ := R.os.drop i x
  exact ⟨A', h2, h1, h3 R.nd, R.sf, R.f0, R.sb, R.fb, fun a m => R.fa a (h2 a m), pn_set hp R.pn⟩
end

/-- a returned value: v stands for o, whose changeable objects are new -/
def Ret (G : Gd) (B F0 : Hp) (o : O) (v : V) (H : Hp) : Prop := ∃ F A, Same F0 F ∧ Same F H ∧ Same B H ∧ (∀ a, F0 a = none → Nt B a → F a = none) ∧ Ow G.tg G.K G.mg F H v o A ∧ A.Nodup ∧ ∀ a ∈ A, F a = none ∧ B a = none

/-- what is handed back, the slots behind it -/
def RetS (G : Gd) (B : Bd) (F0 F : Hp) (o : O) (L : Sl) (v : V) (H : Hp) : Prop := ∃ F' A' C σ', Same F F' ∧ Rl G B F0 L F' A' σ' H ∧ Ow G.tg G.K G.mg F' H v o C ∧ C.Nodup ∧ ∀ a ∈ C, F' a = none ∧ B.h a = none ∧ a ∉ A'
theorem RetS.ret {G : Gd} {B : Bd} {F0 F : Hp} {o : O} {L : Sl} {v : V} {H : Hp} (h : RetS G B F0 F o L v H) : Ret G B.h F0 o v H := by
  obtain ⟨F', A', C, σ', s, R, ow, nC, fC⟩ := h
  exact ⟨F', C, R.f0, R.sf, R.sb, R.fb, ow, nC, fun a m => ⟨(fC a m).1, (fC a m).2.1⟩⟩
/-- a def's promise by its function on data -/
def spV (G : Gd) (fn : List D → R O) : Sp := fun vs H Q E => ∃ F0 ds, Same F0 H ∧ RpA G.K G.mg F0 vs ds ∧
  match fn ds with
  | .ok o => ∀ v H', Ret G H F0 o v H' → Q v H'
  | .exc c => ∃ C, G.mg c = some (.ref C) ∧ ∀ H', Same H H' → E (.ref C) none H'
  | .stuck => False

/-- a def in the table -/
structure FE where
  name : Str
  k : Nat
  ar : Nat
  fn : List D → R O
def FnX (G : Gd) (e : FE) : Prop := ∃ f fd ps, ps.length = e.ar ∧ G.mg e.name = some (.ref f) ∧ PySem.W.keepIn G.K (.ref f) = true ∧ Binds G.K fd ps [] ∧ FnOk G.P G.w G.K G.mg G.base (L2.CX G.P G.w) e.k f fd ps (spV G e.fn)

/-- a class in the table: its name, its __init__'s level, its parameters but self, what it makes of them -/
structure CN where
  name : Str
  k : Nat
  ar : Nat
  fn : List D → R O
/-- a promise of __init__ -/
def spI (G : Gd) (C : Addr) (fn : List D → R O) : Sp := fun vs H Q E => ∃ (x dx : Addr) (us : List V) (ds : List D) (F0 H0 : Hp), vs = .ref x :: us ∧ H = upd (upd H0 dx (.own x)) x (.ins C dx []) ∧ H0 x = none ∧ H0 dx = none ∧ dx ≠ x ∧ Same F0 H0 ∧ RpA G.K G.mg F0 us ds ∧
  match fn ds with
  | .ok o => ∀ H', Ret G H0 F0 o (.ref x) H' → Q .non H'
  | .exc c => ∃ C, G.mg c = some (.ref C) ∧ ∀ H', Same H0 H' → E (.ref C) none H'
  | .stuck => False
def MkX (G : Gd) (e : CN) : Prop := ∃ C f fd ps, G.mg e.name = some (.ref C) ∧ Mk G.K C f ∧ Binds G.K fd ps [] ∧ FnOk G.P G.w G.K G.mg G.base (L2.CX G.P G.w) e.k f fd ps (spI G C e.fn)
structure Gm where
  N : List Str
  sc : Scope
  T : List FE
  X : List Str
  C : List (Str × D)
  k : Nat
  st : Str → Bool
  E : List Str
  I : List (Str × List Str)
  Q : List CN
  M : List (Str × Str × Bool) := []
  Ec : List Str := []
  cm : Bool := true
  tp : Bool := true
  Is : List Str := []
/-- an own class of errors over ValueError, made with a text -/
def ExcF (G : Gd) (c : Str) : Prop := ∃ C, G.mg c = some (.ref C) ∧ PySem.W.excIn G.K C [.type "ValueError", .type "Exception", .type "BaseException", .type "object"] "ValueError.__new__" = true ∧ PySem.W.keepIn G.K (.ref C) = true ∧
  PySem.W.subIn G.K (.ref C) (.type "BaseException") = some true ∧ PySem.W.typeIn G.K (.ref C) = some (.type "type")
/-- h names a class of errors, one's own or a built-in one -/
def NmCls (G : Gd) (h : Str) (cv : Value) : Prop := (∃ C, cv = .ref C ∧ G.mg h = some cv) ∨ (∃ n, cv = .type n ∧ G.mg h = none ∧ bootBuiltins h = some cv ∧ h ≠ "__name__")
/-- an own class whose instances isinstance is asked of -/
structure InsC (K : PySem.W.Frag) (C : Addr) : Prop where
  cl : Cls K C
  ha : PySem.W.findIn K (.ref C) "__class__" = some (some (.builtin "object.__class__"))
  hn : PySem.W.specialIn K (.builtin "object.__class__") "__get__" = some (some (.builtin "getset_descriptor.__get__"))
  ht : PySem.W.takesIn K (.builtin "object.__class__") = some true
  hm : PySem.W.mroIn K C (.type "object") = some true
/-- what the table claims -/
structure Gm.Gr (Γ : Gm) (G : Gd) : Prop where
  fn : ∀ e ∈ Γ.T, FnX G e
  bl : ∀ x ∈ Γ.X, G.mg x = none
  cs : ∀ p ∈ Γ.C, ∃ u v, G.mg p.1 = some u ∧ RelV v u ∧ ∀ F, Rp G.K G.mg F v p.2
  ex : ∀ c ∈ Γ.E, ExcF G c
  is : ∀ p ∈ Γ.I, ∃ C, G.mg p.1 = some (.ref C) ∧ Cls G.K C ∧ ∀ f ∈ p.2, NoAttr G.K C f
  mkx : ∀ e ∈ Γ.Q, MkX G e
  mt : ∀ p ∈ Γ.M, ∃ C cv, G.mg p.1 = some (.ref C) ∧ NmCls G p.2.1 cv ∧ (∀ D, cv = .ref D → PySem.W.exmOne G.K (.ref C) cv = some p.2.2) ∧ PySem.W.kitOne G.K (.ref C) cv = some p.2.2
  ec : ∀ c ∈ Γ.Ec, ∃ C, G.mg c = some (.ref C) ∧ ExcC G.K C
  isc : ∀ c ∈ Γ.Is, ∃ C v, G.mg c = some (.ref C) ∧ InsC G.K C ∧ RelV v (.ref C) ∧ ClsV v (.ref C)
structure Gm.Ok (Γ : Gm) (G : Gd) (X : Cx) : Prop where
  prog : X.prog = G.P
  w : X.w = G.w
  K : X.K = G.K
  mg : X.mg = G.mg
  base : X.base = G.base
  N : X.N = Γ.N
  nd : Γ.N.Nodup
  sc : X.env.scope = Γ.sc
  kind : X.env.scope.kind = .function
  calm : Γ.cm = true → X.calm = true
  room : Γ.cm = true → Room Γ.k X.A
  un : X.A.units + 200 < cLine
  pass : PassesOwn (model X.prog X.w) X.A X.env X.xe
  fnl : ∀ x, Γ.st x = true → X.fn x = true ∨ X.env.scope.names.lookup x = some .local
  stk : Γ.tp = true → X.stack = X.env :: X.outer ∧ X.env.frame = some X.env.locals
  
theorem un_of {k : Nat} {A : Around} (r : Room k A) : A.units + 200 < cLine := by have := r.un; omega
/-- how the heaps may have grown -/
structure Grow (F H F' H' : Hp) : Prop where
  sH : Same H H'
  sF : Same F F'
  le : Same F' H'
  hf : ∀ a, F a = none → Nt H a → F' a = none
theorem Grow.refl {F H : Hp} (h : Same F H) : Grow F H F H := ⟨.refl _, .refl _, h, fun _ e _ => e⟩
theorem Grow.new {F H : Hp} (h : Same F H) {p : Addr} (o : HO) (hp : H p = none) : Grow F H (upd F p o) (upd H p o) := by
  have pF : F p = none := h.free hp
  refine ⟨fun a u e => by rw [upd_ne (ne_of_none e hp)]; exact e, fun a u e => by rw [upd_ne (ne_of_none e pF)]; exact e, fun a u e => ?_, fun a e n => ?_⟩
  · by_cases q : a = p
    · subst q; rw [upd_same] at e ⊢; exact e
    · rw [upd_ne q] at e ⊢; exact h _ _ e
  · rw [upd_ne (fun (z : a = p) => n.1 (z ▸ hp))]; exact e
theorem Grow.trans {F H F1 H1 F2 H2 : Hp} (a : Grow F H F1 H1) (b : Grow F1 H1 F2 H2) : Grow F H F2 H2 :=
  ⟨a.sH.trans b.sH, a.sF.trans b.sF, b.le, fun x e n => b.hf x (a.hf x e n) (nt_mono a.sH n)⟩
section
variable {G : Gd} {B : Bd} {F0 F H F' H' : Hp} {L : Sl} {A : List Addr} {σ : L2.St}
theorem Rl.gr (R : Rl G B F0 L F A σ H) (g : Grow F H F' H') : Rl G B F0 L F' A σ H' := R.grow g.sH g.sF g.le g.hf
end

/-- what is wanted behind a step that gives r -/
def pG (G : Gd) (W : WX) (σ : L2.St) (F H : Hp) {α : Type} (r : R α) (P : α → Hp → Hp → Prop) : Prop :=
  match r with
  | .ok a => ∀ F' H', Grow F H F' H' → P a F' H'
  | .exc c => ∃ C, G.mg c = some (.ref C) ∧ ∀ F' H', Grow F H F' H' → W (.ref C) none σ H'
  | .stuck => False
section
variable {G : Gd} {W : WX} {B : Bd} {F0 F H F1 H1 : Hp} {L : Sl} {A : List Addr} {σ : L2.St} {α β : Type}
theorem pG.mono {r : R α} {P : α → Hp → Hp → Prop} (g : Grow F H F1 H1) (h : pG G W σ F H r P) : pG G W σ F1 H1 r P := by
  cases r with
  | ok a => exact fun F' H' s' => h F' H' (g.trans s')
  | exc c => obtain ⟨C, e, h⟩ := h; exact ⟨C, e, fun F' H' s' => h F' H' (g.trans s')⟩
  | stuck => exact h
theorem pG.imp {r : R α} {P P' : α → Hp → Hp → Prop} (h : pG G W σ F H r P) (R : Rl G B F0 L F A σ H) (i : ∀ a F' H', Same F F' → Rl G B F0 L F' A σ H' → Grow F H F' H' → P a F' H' → P' a F' H') : pG G W σ F H r P' := by
  cases r with
  | ok a => exact fun F' H' g => i a F' H' g.sF (R.gr g) g (h F' H' g)
  | exc c => exact h
  | stuck => exact h
theorem pG.bind {r : R α} {k : α → R β} {P : β → Hp → Hp → Prop} (h : pG G W σ F H (r.bind k) P) : pG G W σ F H r fun a F' H' => pG G W σ F' H' (k a) P := by
  cases r with
  | ok a => exact fun F' H' g => pG.mono g h
  | exc c => exact h
  | stuck => exact h
end
/-- an expression's end -/
def tE (G : Gd) (W : WX) (m : Sl → R D) : TE := fun σ H Q => ∃ B F0 L F A, Rl G B F0 L F A σ H ∧ pG G W σ F H (m L) fun d F' H' => ∀ v, Rp G.K G.mg F' v d → Q v H'
def tT (G : Gd) (W : WX) (m : Sl → R Bool) : TT := fun σ H Q => ∃ B F0 L F A, Rl G B F0 L F A σ H ∧ pG G W σ F H (m L) fun b F' H' => Q b H'
def tA (G : Gd) (W : WX) (m : Sl → R (List D)) : TA := fun σ H Q => ∃ B F0 L F A, Rl G B F0 L F A σ H ∧ pG G W σ F H (m L) fun d F' H' => ∀ v, RpA G.K G.mg F' v d → Q v H'
/-- an expression that gives an owned thing -/
def tO (G : Gd) (W : WX) (m : Sl → R O) : TE := fun σ H Q => ∃ B F0 L F A, Rl G B F0 L F A σ H ∧ pG G W σ F H (m L) fun o F' H' => ∀ v C, Ow G.tg G.K G.mg F' H' v o C → C.Nodup → (∀ a ∈ C, F' a = none ∧ H a = none) → Q v H'
/-- a statement's end -/
def pS (G : Gd) (W : WX) (B : Bd) (F0 F : Hp) (r : RS) (D : Ends) : Prop :=
  match r with
  | .next L' => ∀ σ' H', Rel G B F0 F L' σ' H' → D.nx σ' H'
  | .brk L' => ∀ σ' H', Rel G B F0 F L' σ' H' → D.bk σ' H'
  | .cont L' => ∀ σ' H', Rel G B F0 F L' σ' H' → D.ct σ' H'
  | .ret o L' => ∀ v H', RetS G B F0 F o L' v H' → D.rt v H'
  | .exc c L' => ∃ C, G.mg c = some (.ref C) ∧ ∀ σ' H', Rel G B F0 F L' σ' H' → W (.ref C) none σ' H'
  | .stuck => False
def tS (G : Gd) (W : WX) (m : Sl → RS) : TS := fun D σ H => ∃ B F0 L F A, Rl G B F0 L F A σ H ∧ pS G W B F0 F (m L) D

def CE (G : Gd) (Γ : Gm) (e : Expr) (m : Sl → R D) : Prop := ∀ X, Γ.Ok G X → ∀ W, Takes X W → PE X e (tE G W m)
def CT (G : Gd) (Γ : Gm) (e : Expr) (m : Sl → R Bool) : Prop := ∀ X, Γ.Ok G X → ∀ W, Takes X W → PT X e (tT G W m)
def CA (G : Gd) (Γ : Gm) (es : List Expr) (m : Sl → R (List D)) : Prop := ∀ X, Γ.Ok G X → ∀ W, Takes X W → PA X es (tA G W m)
def CO (G : Gd) (Γ : Gm) (e : Expr) (m : Sl → R O) : Prop := ∀ X, Γ.Ok G X → ∀ W, Takes X W → PE X e (tO G W m)
def CS (G : Gd) (Γ : Gm) (s : Stmt) (m : Sl → RS) : Prop := ∀ X, Γ.Ok G X → ∀ W, Takes X W → PS X s (tS G W m)
def CSs (G : Gd) (Γ : Gm) (s : List Stmt) (m : Sl → RS) : Prop := ∀ X, Γ.Ok G X → ∀ W, Takes X W → PSs X s (tS G W m)

theorem PE.imp {X : Cx} {e : Expr} {t t' : TE} (h : PE X e t) (i : ∀ σ H Q, t' σ H Q → t σ H Q) : PE X e t' := ⟨fun pins s σ H Q I q => h.run pins s σ H Q I (i σ H Q q)⟩
theorem PT.imp {X : Cx} {e : Expr} {t t' : TT} (h : PT X e t) (i : ∀ σ H Q, t' σ H Q → t σ H Q) : PT X e t' := ⟨fun pins s σ H Q I q => h.run pins s σ H Q I (i σ H Q q)⟩
theorem PA.imp {X : Cx} {e : List Expr} {t t' : TA} (h : PA X e t) (i : ∀ σ H Q, t' σ H Q → t σ H Q) : PA X e t' := ⟨fun pos pins s σ H Q I q => h.run pos pins s σ H Q I (i σ H Q q)⟩
theorem PS.imp {X : Cx} {e : Stmt} {t t' : TS} (h : PS X e t) (i : ∀ D σ H, t' D σ H → t D σ H) : PS X e t' := ⟨fun pins s σ H Q I q => h.run pins s σ H Q I (i Q σ H q)⟩
theorem PSs.imp {X : Cx} {e : List Stmt} {t t' : TS} (h : PSs X e t) (i : ∀ D σ H, t' D σ H → t D σ H) : PSs X e t' := ⟨fun pins s σ H Q I q => h.run pins s σ H Q I (i Q σ H q)⟩
end Eng

end
section
set_option Elab.async false
set_option linter.all false
set_option maxRecDepth 100000
set_option maxHeartbeats 4000000
/-! the engine, part 3: expressions -/
namespace Eng
open PySem PySem.Spec PyProof.Rows L2

def lift {α : Type} : Option α → R α | some a => .ok a | none => .stuck
/-! ### operations on values -/
def rV (G : Gd) (f : D → D → Option D) : R2 := fun x y H Q => ∃ F dx dy d, Same F H ∧ Rp G.K G.mg F x dx ∧ Rp G.K G.mg F y dy ∧ f dx dy = some d ∧ ∀ v F' H', Grow F H F' H' → Rp G.K G.mg F' v d → Q v H'
def Op2 (G : Gd) (f : D → D → Option D) (sem : Value → Value → Sem Value) : Prop := ∀ (X : Cx) (Γ : Gm), Γ.Ok G X → OpR X sem (rV G f)
def m2 (f : D → D → Option D) (ma mb : Sl → R D) : Sl → R D := fun L => (ma L).bind fun x => (mb L).bind fun y => lift (f x y)
section
variable {G : Gd} {Γ : Gm} {W : WX} {σ : L2.St} {H : Hp} {Q : VK} {X : Cx}
/-- two values, then an operation -/
theorem two {f : D → D → Option D} {ma mb : Sl → R D} (h : tE G W (m2 f ma mb) σ H Q) : tOp (rV G f) (tE G W ma) (tE G W mb) σ H Q := by
  obtain ⟨B, F0, L, F, A, R, h⟩ := h
  refine ⟨B, F0, L, F, A, R, (pG.bind h).imp R fun dx F1 H1 s1 R1 g1 h1 x rx => ?_⟩
  refine ⟨B, F0, L, F1, A, R1, (pG.bind h1).imp R1 fun dy F2 H2 s2 R2 g2 h2 y ry => ?_⟩
  cases e : f dx dy with
  | none => rw [e] at h2; exact h2.elim
  | some d =>
    rw [e] at h2
    exact ⟨F2, dx, dy, d, R2.sf, rx.mono s2, ry, e, fun v F' H' g r => h2 F' H' g v r⟩
theorem ce_bin {f : D → D → Option D} {op : Operator} {a b : Expr} {ma mb : Sl → R D} {pos : Pos} (ho : Op2 G f (binaryOp op)) (ha : CE G Γ a ma) (hb : CE G Γ b mb) : CE G Γ (.BinOp a op b pos) (m2 f ma mb) :=
  fun X ok W tk => PE.imp (pe_op (ho X Γ ok) (ha X ok W tk) (hb X ok W tk)) fun _ _ _ h => two h
theorem ce_cmp {f : D → D → Option D} {op : CmpOp} {a b : Expr} {ma mb : Sl → R D} {pos : Pos} (ho : Op2 G f (compareOp op)) (hm : behindInMarks op b = false) (ha : CE G Γ a ma) (hb : CE G Γ b mb) : CE G Γ (.Compare a [op] [b] pos) (m2 f ma mb) :=
  fun X ok W tk => PE.imp (pe_cmpR (ho X Γ ok) (ha X ok W tk) (hb X ok W tk) hm) fun _ _ _ h => two h
def asB : D → Option Bool | .bl b => some b | _ => none
theorem Rp.bl_inv {K : PySem.W.Frag} {mg : Str → Option Value} {F : Hp} {v : V} {d : D} {b : Bool} (r : Rp K mg F v d) (e : asB d = some b) : v = .bl b := by
  cases r <;> first | (cases e; done) | (injection e with e; subst e; rfl)
def mB (m : Sl → R D) : Sl → R Bool := fun L => (m L).bind fun d => lift (asB d)
theorem ct_cmp {f : D → D → Option D} {op : CmpOp} {a b : Expr} {ma mb : Sl → R D} {pos : Pos} (ho : Op2 G f (compareOp op)) (hm : behindInMarks op b = false) (ha : CE G Γ a ma) (hb : CE G Γ b mb) : CT G Γ (.Compare a [op] [b] pos) (mB (m2 f ma mb)) := by
  refine fun X ok W tk => PT.imp (pt_cmpR (ho X Γ ok) (ha X ok W tk) (hb X ok W tk) hm) fun σ H Q h => ?_
  obtain ⟨B, F0, L, F, A, R, h⟩ := h
  refine two (Q := fun x H' => ∃ k, x = .bl k ∧ Q k H') ⟨B, F0, L, F, A, R, (pG.bind h).imp R fun d F1 H1 s1 R1 g1 h1 v rv => ?_⟩
  cases e : asB d with
  | none => rw [e] at h1; exact h1.elim
  | some k => rw [e] at h1; exact ⟨k, rv.bl_inv e, h1 F1 H1 (Grow.refl R1.sf)⟩
/-- any plain expression as a test -/
def plainT : Expr → Bool | .UnaryOp .Not _ _ => false | .BoolOp _ _ _ => false | .IfExp _ _ _ _ => false | .Compare _ _ _ _ => false | _ => true
theorem isTrue_of {e : Expr} (h : plainT e = true) (env : Env) (whole : Sem Value) : isTrue e env whole = (do let v ← whole; standAt e.pos; holding [v] (truthy v)) := by
  cases e <;> first | rfl | (cases h; done) | skip
  rename_i op x pos
  cases op <;> first | rfl | (cases h; done)
theorem ct_val {e : Expr} {m : Sl → R D} (hp : plainT e = true) (h : CE G Γ e m) : CT G Γ e (mB m) := by
  refine fun X ok W tk => PT.imp (pt_val (h X ok W tk) fun _ => isTrue_of hp _ _) fun σ H Q h => ?_
  obtain ⟨B, F0, L, F, A, R, h⟩ := h
  refine ⟨B, F0, L, F, A, R, (pG.bind h).imp R fun d F1 H1 s1 R1 g1 h1 v rv => ?_⟩
  cases e : asB d with
  | none => rw [e] at h1; exact h1.elim
  | some k => rw [e] at h1; exact ⟨k, rv.bl_inv e, h1 F1 H1 (Grow.refl R1.sf)⟩

/-! ### constants, names -/
def mC (d : D) : Sl → R D := fun _ => .ok d
theorem ce_k {e : Expr} {v : V} {d : D} (h : ∀ X : Cx, PE X e (tC v)) (r : ∀ F, Rp G.K G.mg F v d) : CE G Γ e (mC d) :=
  fun X ok W tk => PE.imp (h X) fun σ H Q h => by
    obtain ⟨B, F0, L, F, A, R, h⟩ := h
    exact h F H (Grow.refl R.sf) v (r F)
theorem ce_int {i : Int} {j pos} : CE G Γ (.Constant (.int i) j pos) (mC (.int i)) := ce_k (fun _ => pe_int) fun _ => .int i
theorem ce_str {i : Str} {j pos} : CE G Γ (.Constant (.str i) j pos) (mC (.str i)) := ce_k (fun _ => pe_str) fun _ => .str i
theorem ce_bl {i : Bool} {j pos} : CE G Γ (.Constant (.bool i) j pos) (mC (.bl i)) := ce_k (fun _ => pe_bl) fun _ => .bl i
theorem ce_non {j pos} : CE G Γ (.Constant .none j pos) (mC .non) := ce_k (fun _ => pe_non) fun _ => .non
def mVar (i : Nat) : Sl → R D := fun L => match L[i]? with | some (some (.v d)) => .ok d | _ => .stuck
def visB (sc : Scope) (x : Str) : Bool := match sc.names.lookup x with | some .local => true | some .cell => true | some .free => true | _ => false
theorem vis_of {sc : Scope} {x : Str} (h : visB sc x = true) : Vis sc x := by
  unfold visB at h
  unfold Vis
  split at h <;> simp_all
theorem ce_var {i : Nat} {x : Str} {pos : Pos} (hN : Γ.N[i]? = some x) (hv : visB Γ.sc x = true) (hd : (x == ("__debug__" : Str)) = false) (hcd : (x == ("__classdict__" : Str)) = false) : CE G Γ (.Name x pos) (mVar i) := by
  refine fun X ok W tk => PE.imp (pe_var (i := i) (by rw [ok.N]; exact hN) (by rw [ok.sc]; exact vis_of hv) hd hcd) fun σ H Q h => ?_
  obtain ⟨B, F0, L, F, A, R, h⟩ := h
  unfold mVar at h
  cases e : L[i]? with
  | none => rw [e] at h; exact h.elim
  | some u =>
    cases u with
    | none => rw [e] at h; exact h.elim
    | some o =>
      cases o with
      | v d =>
        rw [e] at h
        obtain ⟨v, A1, Ai, A2, h1, h2, _⟩ := R.os.get e
        cases h2 with
        | v r => exact ⟨v, h1, h F H (Grow.refl R.sf) v r⟩
      | _ => rw [e] at h; exact h.elim

/-! ### and, or, not, if -/
def mAnd (a b : Sl → R Bool) : Sl → R Bool := fun L => (a L).bind fun x => if x = true then b L else .ok false
def mOr (a b : Sl → R Bool) : Sl → R Bool := fun L => (a L).bind fun x => if x = true then .ok true else b L
def mNot (a : Sl → R Bool) : Sl → R Bool := fun L => (a L).bind fun x => .ok (!x)
def CW (G : Gd) (Γ : Gm) (e : Expr) (m : Sl → R Bool) : Prop := ∀ X, Γ.Ok G X → ∀ W, Takes X W → PW X e (tT G W m)
theorem PW.imp {X : Cx} {e : Expr} {t t' : TT} (h : PW X e t) (i : ∀ σ H Q, t' σ H Q → t σ H Q) : PW X e t' := ⟨fun wh pins s σ H Q I q => h.run wh pins s σ H Q I (i σ H Q q)⟩
theorem CW.ct {e : Expr} {m : Sl → R Bool} (h : CW G Γ e m) : CT G Γ e m := fun X ok W tk => (h X ok W tk).pt
variable {a b : Expr} {rest : List Expr} {ma mb mc : Sl → R Bool} {na nb : Sl → R D} {pos : Pos}
theorem cw_and1 (ha : CT G Γ a ma) : CW G Γ (.BoolOp .And [a] pos) ma := fun X ok W tk => pw_and1 (ha X ok W tk)
theorem cw_or1 (ha : CT G Γ a ma) : CW G Γ (.BoolOp .Or [a] pos) ma := fun X ok W tk => pw_or1 (ha X ok W tk)
theorem cw_and (ha : CT G Γ a ma) (hb : CW G Γ (.BoolOp .And (b :: rest) pos) mb) : CW G Γ (.BoolOp .And (a :: b :: rest) pos) (mAnd ma mb) := by
  refine fun X ok W tk => PW.imp (pw_and (ha X ok W tk) (hb X ok W tk)) fun σ H Q h => ?_
  obtain ⟨B, F0, L, F, A, R, h⟩ := h
  refine ⟨B, F0, L, F, A, R, (pG.bind h).imp R fun k F1 H1 s1 R1 g1 h1 => ?_⟩
  cases k with
  | true => exact iteT ⟨B, F0, L, F1, A, R1, h1⟩
  | false => exact iteF (h1 F1 H1 (Grow.refl R1.sf))
theorem cw_or (ha : CT G Γ a ma) (hb : CW G Γ (.BoolOp .Or (b :: rest) pos) mb) : CW G Γ (.BoolOp .Or (a :: b :: rest) pos) (mOr ma mb) := by
  refine fun X ok W tk => PW.imp (pw_or (ha X ok W tk) (hb X ok W tk)) fun σ H Q h => ?_
  obtain ⟨B, F0, L, F, A, R, h⟩ := h
  refine ⟨B, F0, L, F, A, R, (pG.bind h).imp R fun k F1 H1 s1 R1 g1 h1 => ?_⟩
  cases k with
  | false => exact iteF ⟨B, F0, L, F1, A, R1, h1⟩
  | true => exact iteT (h1 F1 H1 (Grow.refl R1.sf))
theorem ct_not (ha : CT G Γ a ma) : CT G Γ (.UnaryOp .Not a pos) (mNot ma) := by
  refine fun X ok W tk => PT.imp (pt_not (ha X ok W tk)) fun σ H Q h => ?_
  obtain ⟨B, F0, L, F, A, R, h⟩ := h
  exact ⟨B, F0, L, F, A, R, (pG.bind h).imp R fun k F1 H1 s1 R1 g1 h1 => h1 F1 H1 (Grow.refl R1.sf)⟩
/-- as values: all but the last True or False -/
def vAnd (a b : Sl → R D) : Sl → R D := fun L => (a L).bind fun x => (lift (asB x)).bind fun k => if k = true then b L else .ok (.bl false)
def vOr (a b : Sl → R D) : Sl → R D := fun L => (a L).bind fun x => (lift (asB x)).bind fun k => if k = true then .ok (.bl true) else b L
def vNot (a : Sl → R D) : Sl → R D := fun L => (a L).bind fun x => (lift (asB x)).bind fun k => .ok (.bl (!k))
theorem ce_one {op} (ha : CE G Γ a na) : CE G Γ (.BoolOp op [a] pos) na := fun X ok W tk => pe_one (ha X ok W tk)
theorem ce_and (ha : CE G Γ a na) (hb : CE G Γ (.BoolOp .And (b :: rest) pos) nb) : CE G Γ (.BoolOp .And (a :: b :: rest) pos) (vAnd na nb) := by
  refine fun X ok W tk => PE.imp (pe_and (ha X ok W tk) (hb X ok W tk)) fun σ H Q h => ?_
  obtain ⟨B, F0, L, F, A, R, h⟩ := h
  refine ⟨B, F0, L, F, A, R, (pG.bind h).imp R fun d F1 H1 s1 R1 g1 h1 v rv => ?_⟩
  cases e : asB d with
  | none => rw [e] at h1; exact h1.elim
  | some k =>
    rw [e] at h1
    refine ⟨k, rv.bl_inv e, ?_⟩
    cases k with
    | true => exact iteT ⟨B, F0, L, F1, A, R1, h1⟩
    | false => exact iteF (h1 F1 H1 (Grow.refl R1.sf) _ (.bl false))
theorem ce_or (ha : CE G Γ a na) (hb : CE G Γ (.BoolOp .Or (b :: rest) pos) nb) : CE G Γ (.BoolOp .Or (a :: b :: rest) pos) (vOr na nb) := by
  refine fun X ok W tk => PE.imp (pe_or (ha X ok W tk) (hb X ok W tk)) fun σ H Q h => ?_
  obtain ⟨B, F0, L, F, A, R, h⟩ := h
  refine ⟨B, F0, L, F, A, R, (pG.bind h).imp R fun d F1 H1 s1 R1 g1 h1 v rv => ?_⟩
  cases e : asB d with
  | none => rw [e] at h1; exact h1.elim
  | some k =>
    rw [e] at h1
    refine ⟨k, rv.bl_inv e, ?_⟩
    cases k with
    | false => exact iteF ⟨B, F0, L, F1, A, R1, h1⟩
    | true => exact iteT (h1 F1 H1 (Grow.refl R1.sf) _ (.bl true))
theorem ce_not (ha : CE G Γ a na) : CE G Γ (.UnaryOp .Not a pos) (vNot na) := by
  refine fun X ok W tk => PE.imp (pe_not (ha X ok W tk)) fun σ H Q h => ?_
  obtain ⟨B, F0, L, F, A, R, h⟩ := h
  refine ⟨B, F0, L, F, A, R, (pG.bind h).imp R fun d F1 H1 s1 R1 g1 h1 v rv => ?_⟩
  cases e : asB d with
  | none => rw [e] at h1; exact h1.elim
  | some k => rw [e] at h1; exact ⟨k, rv.bl_inv e, h1 F1 H1 (Grow.refl R1.sf) _ (.bl (!k))⟩
def mIf {α : Type} (c : Sl → R Bool) (a b : Sl → R α) : Sl → R α := fun L => (c L).bind fun x => if x = true then a L else b L
theorem ce_if {c : Expr} (hc : CT G Γ c mc) (ha : CE G Γ a na) (hb : CE G Γ b nb) : CE G Γ (.IfExp c a b pos) (mIf mc na nb) := by
  refine fun X ok W tk => PE.imp (pe_ifExp (hc X ok W tk) (ha X ok W tk) (hb X ok W tk)) fun σ H Q h => ?_
  obtain ⟨B, F0, L, F, A, R, h⟩ := h
  refine ⟨B, F0, L, F, A, R, (pG.bind h).imp R fun k F1 H1 s1 R1 g1 h1 => ?_⟩
  cases k with
  | true => exact iteT ⟨B, F0, L, F1, A, R1, h1⟩
  | false => exact iteF ⟨B, F0, L, F1, A, R1, h1⟩

/-! ### lists of arguments, displays -/
def mNil : Sl → R (List D) := fun _ => .ok []
def mCons (a : Sl → R D) (r : Sl → R (List D)) : Sl → R (List D) := fun L => (a L).bind fun x => (r L).bind fun xs => .ok (x :: xs)
def nst : Expr → Bool | .Starred _ _ => false | _ => true
theorem star_cons {e : Expr} {es : List Expr} {env : Env} (h : nst e = true) : starEach (e :: es) env = (false, eval e env) :: starEach es env := by
  cases e <;> first | rfl | (cases h; done)
theorem star_any {pos : Pos} {env : Env} : ∀ {es : List Expr}, es.all nst = true → (backTo pos (starEach es env)).any (·.1) = false
  | [], _ => rfl
  | e :: es, h => by
    rw [List.all_cons, Bool.and_eq_true] at h
    rw [star_cons h.1]
    show (false || (backTo pos (starEach es env)).any (·.1)) = false
    rw [star_any h.2]; rfl
theorem ca_nil : CA G Γ [] mNil := fun X ok W tk => PA.imp pa_nil fun σ H Q h => by
  obtain ⟨B, F0, L, F, A, R, h⟩ := h
  exact h F H (Grow.refl R.sf) [] .nil
theorem ca_cons {e : Expr} {es : List Expr} {m : Sl → R D} {r : Sl → R (List D)} (hs : nst e = true) (he : CE G Γ e m) (hr : CA G Γ es r) : CA G Γ (e :: es) (mCons m r) := by
  refine fun X ok W tk => PA.imp (pa_cons (he X ok W tk) (hr X ok W tk) (star_cons hs)) fun σ H Q h => ?_
  obtain ⟨B, F0, L, F, A, R, h⟩ := h
  refine ⟨B, F0, L, F, A, R, (pG.bind h).imp R fun d F1 H1 s1 R1 g1 h1 v rv => ?_⟩
  refine ⟨B, F0, L, F1, A, R1, (pG.bind h1).imp R1 fun ds F2 H2 s2 R2 g2 h2 vs rvs => ?_⟩
  exact h2 F2 H2 (Grow.refl R2.sf) _ (.cons (rv.mono s2) rvs)
theorem RpA.length {K : PySem.W.Frag} {mg : Str → Option Value} {F : Hp} : ∀ {vs : List V} {ds : List D}, RpA K mg F vs ds → vs.length = ds.length
  | _, _, .nil => rfl
  | _, _, .cons _ t => congrArg (· + 1) (RpA.length t)
def mTup (m : Sl → R (List D)) : Sl → R D := fun L => (m L).bind fun ds => if ds.length ≤ sizeLine then .ok (.tup ds) else .stuck
theorem ce_tup {es : List Expr} {m : Sl → R (List D)} {k pos} (h : CA G Γ es m) : CE G Γ (.Tuple es k pos) (mTup m) := by
  refine fun X ok W tk => PE.imp (pe_tup (h X ok W tk)) fun σ H Q h => ?_
  obtain ⟨B, F0, L, F, A, R, h⟩ := h
  refine ⟨B, F0, L, F, A, R, (pG.bind h).imp R fun ds F1 H1 s1 R1 g1 h1 vs rv => ?_⟩
  split at h1
  · rename_i hl
    refine ⟨by rw [rv.length]; exact hl, fun p hp => ?_⟩
    obtain ⟨s2, R2⟩ := R1.frz (.tup vs) hp
    exact h1 _ _ (Grow.new R1.sf (.tup vs) hp) _ (.tup upd_same (rv.mono s2))
  · exact h1.elim
/-- an owned thing frozen -/
def mFr (m : Sl → R O) : Sl → R D := fun L => (m L).bind fun o => .ok o.fr
theorem fr_end {W : WX} {F : Hp} {r : R O} (sf : Same F H) (h : pG G W σ F H (r.bind fun o => .ok o.fr) fun d F' H' => ∀ v, Rp G.K G.mg F' v d → Q v H') : pG G W σ F H r fun o F' H' => ∀ v C, Ow G.tg G.K G.mg F' H' v o C → C.Nodup → (∀ a ∈ C, F' a = none ∧ H a = none) → Q v H' := by
  cases r with
  | ok o =>
    intro F1 H1 g1 v C ow nC fC
    have s2 : Same F1 (join F1 H1 C) := join_same fun a m => (fC a m).1
    refine h (join F1 H1 C) H1 ⟨g1.sH, g1.sF.trans s2, join_le g1.le, fun a z n => ?_⟩ v (Ow.fr (fun a m => (fC a m).1) (fun a m => m) ow)
    by_cases hm : a ∈ C
    · exact absurd (fC a hm).2 n.1
    · rw [join_not hm]; exact g1.hf a z n
  | exc c => exact h
  | stuck => exact h
theorem ce_of_co {e : Expr} {m : Sl → R O} (h : CO G Γ e m) : CE G Γ e (mFr m) := by
  refine fun X ok W tk => PE.imp (h X ok W tk) fun σ H Q h => ?_
  obtain ⟨B, F0, L, F, A, R, h⟩ := h
  exact ⟨B, F0, L, F, A, R, fr_end R.sf h⟩
/-- a frozen value as an owned thing -/
theorem co_of_ce {e : Expr} {m : Sl → R D} (h : CE G Γ e m) : CO G Γ e (fun L => (m L).bind fun d => .ok (.v d)) := by
  refine fun X ok W tk => PE.imp (h X ok W tk) fun σ H Q h => ?_
  obtain ⟨B, F0, L, F, A, R, h⟩ := h
  exact ⟨B, F0, L, F, A, R, (pG.bind h).imp R fun d F1 H1 s1 R1 g1 h1 v rv => h1 F1 H1 (Grow.refl R1.sf) v [] (.v rv) List.nodup_nil fun _ m => nomatch m⟩
theorem RpA.ow {tg : Tg} {K : PySem.W.Frag} {mg : Str → Option Value} {F H : Hp} : ∀ {vs : List V} {ds : List D}, RpA K mg F vs ds → OwA tg K mg F H vs (ds.map .v) []
  | _, _, .nil => .nil
  | _, _, .cons r t => .cons (A := []) (B := []) (.v r) (RpA.ow t)
/-- a new list, owned -/
theorem new_list {F H0 : Hp} {vs : List V} {ds : List D} (sf : Same F H) (s0 : Same H0 H) (rv : RpA G.K G.mg F vs ds)
    (h : ∀ F' H', Grow F H F' H' → ∀ v C, Ow G.tg G.K G.mg F' H' v (.ml (ds.map .v)) C → C.Nodup → (∀ a ∈ C, F' a = none ∧ H0 a = none) → Q v H') : ∀ p, H p = none → Q (.ref p) (upd H p (.lst vs)) := fun p hp => by
  refine h F (upd H p (.lst vs)) ⟨fun a u e => ?_, .refl _, fun a u e => ?_, fun _ e _ => e⟩ (.ref p) [p] (.ml upd_same rv.ow) (by simp) (fun a m => by rw [List.mem_singleton.mp m]; exact ⟨sf.free hp, s0.free hp⟩)
  · rw [upd_ne (ne_of_none e hp)]; exact e
  · rw [upd_ne (ne_of_none (sf _ _ e) hp)]; exact sf _ _ e
def mLst (m : Sl → R (List D)) : Sl → R O := fun L => (m L).bind fun ds => if ds.length ≤ sizeLine then .ok (.ml (ds.map .v)) else .stuck
theorem co_lst {es : List Expr} {m : Sl → R (List D)} {pos} (h : CA G Γ es m) : CO G Γ (.List es pos) (mLst m) := by
  refine fun X ok W tk => PE.imp (pe_lst (h X ok W tk)) fun σ H Q h => ?_
  obtain ⟨B, F0, L, F, A, R, h⟩ := h
  refine ⟨B, F0, L, F, A, R, (pG.bind h).imp R fun ds F1 H1 s1 R1 g1 h1 vs rv => ?_⟩
  split at h1
  · rename_i hl
    exact ⟨by rw [rv.length]; exact hl, new_list R1.sf g1.sH rv h1⟩
  · exact h1.elim
end
end Eng

end
section
set_option Elab.async false
set_option linter.all false
set_option maxRecDepth 100000
set_option maxHeartbeats 4000000
/-! the engine, part 4: operations on data -/
namespace Eng
open PySem PySem.Spec PyProof.Rows L2

/-! ### data without dicts and instances, for the library's comparisons -/
mutual
def D.py : D → Option PyData
  | .non => some .none
  | .bl b => some (.bool b)
  | .int i => some (.int i)
  | .str x => some (.str x)
  | .lst xs => (D.pyA xs).map .list
  | .tup xs => (D.pyA xs).map .tuple
  | .ins _ _ => none
  | .dk _ => none
  | .dt _ => none
  | .exn _ _ => none
  | .opq => none
def D.pyA : List D → Option (List PyData)
  | [] => some []
  | d :: ds => d.py.bind fun p => (D.pyA ds).map fun ps => p :: ps
end
mutual
theorem D.py_plain : ∀ {d : D} {p : PyData}, d.py = some p → p.plain = true
  | .non, _, h => by unfold D.py at h; cases h; rfl
  | .bl _, _, h => by unfold D.py at h; cases h; rfl
  | .int _, _, h => by unfold D.py at h; cases h; rfl
  | .str _, _, h => by unfold D.py at h; cases h; rfl
  | .lst xs, p, h => by
    unfold D.py at h
    cases e : D.pyA xs with
    | none => rw [e] at h; cases h
    | some ps => rw [e] at h; cases h; exact D.pyA_plain e
  | .tup xs, p, h => by
    unfold D.py at h
    cases e : D.pyA xs with
    | none => rw [e] at h; cases h
    | some ps => rw [e] at h; cases h; exact D.pyA_plain e
  | .ins _ _, _, h => by unfold D.py at h; cases h
  | .dk _, _, h => by unfold D.py at h; cases h
  | .dt _, _, h => by unfold D.py at h; cases h
  | .exn _ _, _, h => by unfold D.py at h; cases h
  | .opq, _, h => by unfold D.py at h; cases h
theorem D.pyA_plain : ∀ {d : List D} {p : List PyData}, D.pyA d = some p → PyData.plainAll p = true
  | [], _, h => by unfold D.pyA at h; cases h; rfl
  | d :: ds, p, h => by
    unfold D.pyA at h
    cases e : d.py with
    | none => rw [e] at h; cases h
    | some q =>
      cases e2 : D.pyA ds with
      | none => rw [e, e2] at h; cases h
      | some ps => rw [e, e2] at h; cases h; simp only [PyData.plainAll, D.py_plain e, D.pyA_plain e2, Bool.and_self]
end
section
variable {tg : Tg} {K : PySem.W.Frag} {mg : Str → Option Value} {F H : Hp}
mutual
theorem Rp.dp (s : Same F H) : ∀ {v : V} {d : D} {p : PyData}, Rp K mg F v d → d.py = some p → Dp K H v p
  | _, _, _, .non, h => by unfold D.py at h; cases h; exact .non
  | _, _, _, .bl b, h => by unfold D.py at h; cases h; exact .bl b
  | _, _, _, .int b, h => by unfold D.py at h; cases h; exact .int b
  | _, _, _, .str b, h => by unfold D.py at h; cases h; exact .str b
  | _, _, p, .lst (ds := ds) hs r, h => by
    unfold D.py at h
    cases e : D.pyA ds with
    | none => rw [e] at h; cases h
    | some ps => rw [e] at h; cases h; exact .lst (s.seq hs) (RpA.dp s r e)
  | _, _, p, .tup (ds := ds) hs r, h => by
    unfold D.py at h
    cases e : D.pyA ds with
    | none => rw [e] at h; cases h
    | some ps => rw [e] at h; cases h; exact .tup (s.tq hs) (RpA.dp s r e)
  | _, _, _, .ins _ _ _, h => by unfold D.py at h; cases h
  | _, _, _, .dk _ _, h => by unfold D.py at h; cases h
  | _, _, _, .dt _ _, h => by unfold D.py at h; cases h
  | _, _, _, .exn _ _ _ _, h => by unfold D.py at h; cases h
  | _, _, _, .opq _, h => by unfold D.py at h; cases h
theorem RpA.dp (s : Same F H) : ∀ {v : List V} {d : List D} {p : List PyData}, RpA K mg F v d → D.pyA d = some p → DpAll K H v p
  | _, _, _, .nil, h => by unfold D.pyA at h; cases h; exact .nil
  | _, _, _, .cons (d := d) (ds := ds) r t, h => by
    unfold D.pyA at h
    cases e : d.py with
    | none => rw [e] at h; cases h
    | some q =>
      cases e2 : D.pyA ds with
      | none => rw [e, e2] at h; cases h
      | some ps => rw [e, e2] at h; cases h; exact .cons (Rp.dp s r e) (RpA.dp s t e2)
end
end
section
variable {G : Gd} {Γ : Gm} {X : Cx} {pins : List (Addr × Obj)} {σ : L2.St} {H F : Hp} {s : Shared} {v : V} {u : Value} {d : D} {p : PyData} {Q : VK}
theorem Gm.Ok.units (ok : Γ.Ok G X) : X.A.units + 150 < cLine := by have := ok.un; omega
theorem Rp.rd (ok : Γ.Ok G X) (I : Inv X pins σ H s) (sf : Same F H) (r : Rp G.K G.mg F v d) (e : d.py = some p) (rv : RelV v u) : ∃ as, Reads s.heap u p as := by
  have := Rp.dp sf r e
  rw [← ok.K] at this
  exact Dp.reads I p v u this rv
theorem Rp.lstM (I : Inv X pins σ H s) {a : Addr} {xs : List V} (h : Rd H a (.lst xs)) : xs.length ≤ sizeLine ∧ ∃ (its : List Value) (n : Nat), Vals xs its ∧ xs.length = its.length ∧ s.heap.get? a = some { cls := .type "list", data := .seq its.toArray n } := by
  obtain ⟨z, its, n, r, e⟩ := h.ok I.hok
  exact ⟨z, its, n, r, r.length, e⟩
/-- a scalar has come -/
theorem ep_sc {b : Value} {x : V} (I : Inv X pins σ H s) (sf : Same F H) (rv : RelV x b) (rp : ∀ F, Rp G.K G.mg F x d) (h : ∀ v F' H', Grow F H F' H' → Rp G.K G.mg F' v d → Q v H') : EP X pins σ Q b s :=
  ⟨x, H, I, rv, h x F H (.refl sf) (rp F)⟩
theorem ep_tk {b : Value} {x : V} {t : Nat} (I : Inv X pins σ H s) (sf : Same F H) (rv : RelV x b) (rp : ∀ F, Rp G.K G.mg F x d) (h : ∀ v F' H', Grow F H F' H' → Rp G.K G.mg F' v d → Q v H') : EP X pins σ Q b { s with toks := t } :=
  ⟨x, H, I.tok t, rv, h x F H (.refl sf) (rp F)⟩
end

/-! ### + -/
def fAdd : D → D → Option D
  | .int i, .int j => some (.int (i + j))
  | .str x, .str y => if x.length + y.length ≤ sizeLine then some (.str (x ++ y)) else none
  | .tup xs, .tup ys => if xs.length + ys.length ≤ sizeLine then some (.tup (xs ++ ys)) else none
  | .lst xs, .lst ys => if xs.length + ys.length ≤ sizeLine then some (.lst (xs ++ ys)) else none
  | _, _ => none
section
variable {G : Gd} {Γ : Gm}
theorem RpA.append {K : PySem.W.Frag} {mg : Str → Option Value} {F : Hp} : ∀ {vs ws : List V} {ds es : List D}, RpA K mg F vs ds → RpA K mg F ws es → RpA K mg F (vs ++ ws) (ds ++ es)
  | _, _, _, _, .nil, s => s
  | _, _, _, _, .cons r t, s => .cons r (RpA.append t s)
/-- list + list, whatever keeps them -/
theorem cat_lists {X : Cx} {pins : List (Addr × Obj)} {σ : L2.St} {H : Hp} {s : Shared} {Q : VK} {l b : Addr} {xs zs : List V} (I : Inv X pins σ H s) (h1 : SqL X.K H l xs) (h2 : SqL X.K H b zs) (hz : xs.length + zs.length ≤ sizeLine)
    (q : ∀ p, H p = none → Q (.ref p) (upd H p (.lst (xs ++ zs)))) : wpAny (model X.prog X.w) X.A (binaryOp .Add (.ref l) (.ref b)) (EP X pins σ Q) X.xe s := by
  obtain ⟨vs, r, p1, _⟩ := I.list h1
  obtain ⟨ws, r2, p2, _⟩ := I.list h2
  have el := r.length
  have el2 := r2.length
  obtain ⟨⟨cls, dd, data, sl⟩, ho, hc, n, hd⟩ := p1.isList
  obtain ⟨⟨cls2, dd2, data2, sl2⟩, ho2, hc2, n2, hd2⟩ := p2.isList
  simp only at hc hd hc2 hd2
  subst hc hd hc2 hd2
  have e : vs.toArray ++ ws.toArray = (vs ++ ws).toArray := by simp
  refine concat_meets ⟨_, ho, rfl⟩ ⟨_, ho2, rfl⟩ noFill_list_add seq_list_add PySem.F.slot_list_add PySem.F.entry_list_add (PySem.F.args_list_add_2 _ _) (list_addW l b vs.toArray ws.toArray n n2 dd dd2 sl sl2 (by simp only [List.size_toArray]; omega)) ⟨ho, ho2, ?_⟩
  rw [e]
  exact ⟨.ref _, _, I.lnew (t' := s.toks) (r.append r2) (by rw [List.length_append]; omega), rfl, q _ I.fresh⟩
theorem o_add : Op2 G fAdd (binaryOp .Add) := by
  intro X Γ ok pins s σ H x y v u Q I rx ry h
  obtain ⟨F, dx, dy, d, sf, hx, hy, e, h⟩ := h
  unfold fAdd at e
  split at e
  · cases e; cases hx; cases hy
    exact op_add pins s σ H _ _ v u Q I rx ry ⟨_, _, rfl, rfl, h _ F H (.refl sf) (.int _)⟩
  · split at e
    · cases e; cases hx; cases hy
      exact op_add_str pins s σ H _ _ v u Q I rx ry ⟨_, _, rfl, rfl, by assumption, h _ F H (.refl sf) (.str _)⟩
    · cases e
  · split at e
    · rename_i hz
      cases e
      cases hx with
      | @tup _ us1 _ h1 r1 =>
        cases hy with
        | @tup _ us2 _ h2 r2 =>
          refine op_catA pins s σ H _ _ v u Q I rx ry ⟨_, _, _, _, rfl, rfl, by rw [ok.K]; exact sf.tq h1, by rw [ok.K]; exact sf.tq h2, by rw [r1.length, r2.length]; exact hz, fun e0 => ?_, fun _ e0 => ?_, fun _ _ p hp => ?_⟩
          · refine h _ F H (.refl sf) ?_
            subst e0; cases r1; exact .tup h2 r2
          · refine h _ F H (.refl sf) ?_
            subst e0; cases r2; rw [List.append_nil]; exact .tup h1 r1
          · have g := Grow.new sf (.tup (us1 ++ us2)) hp
            exact h _ _ _ g (.tup upd_same (RpA.mono g.sF (r1.append r2)))
    · cases e
  · split at e
    · rename_i hz
      cases e
      cases hx with
      | @lst _ us1 _ h1 r1 =>
        cases hy with
        | @lst _ us2 _ h2 r2 =>
          cases rx; cases ry
          refine cat_lists I (by rw [ok.K]; exact sf.seq h1) (by rw [ok.K]; exact sf.seq h2) (by rw [r1.length, r2.length]; exact hz) fun p hp => ?_
          have g := Grow.new sf (.lst (us1 ++ us2)) hp
          exact h _ _ _ g (.lst (.inl (.inl upd_same)) (RpA.mono g.sF (r1.append r2)))
    · cases e
  · cases e
def fSub : D → D → Option D
  | .int i, .int j => some (.int (i - j))
  | _, _ => none
theorem o_sub : Op2 G fSub (binaryOp .Sub) := by
  intro X Γ ok pins s σ H x y v u Q I rx ry h
  obtain ⟨F, dx, dy, d, sf, hx, hy, e, h⟩ := h
  unfold fSub at e
  split at e
  · cases e; cases hx; cases hy
    exact op_sub pins s σ H _ _ v u Q I rx ry ⟨_, _, rfl, rfl, h _ F H (.refl sf) (.int _)⟩
  · cases e
/-- a factor below 2 ^ 64 -/
def mulOk (i j : Int) : Prop := (-18446744073709551616 < i ∧ i < 18446744073709551616) ∨ (-18446744073709551616 < j ∧ j < 18446744073709551616)
instance (i j : Int) : Decidable (mulOk i j) := by unfold mulOk; infer_instance
def fMul : D → D → Option D
  | .int i, .int j => if mulOk i j then some (.int (i * j)) else none
  | _, _ => none
theorem o_mul : Op2 G fMul (binaryOp .Mult) := by
  intro X Γ ok pins s σ H x y v u Q I rx ry h
  obtain ⟨F, dx, dy, d, sf, hx, hy, e, h⟩ := h
  unfold fMul at e
  split at e
  · split at e
    · rename_i hm
      cases e; cases hx; cases hy
      refine op_mul pins s σ H _ _ v u Q I rx ry ⟨_, _, rfl, rfl, ?_, h _ F H (.refl sf) (.int _)⟩
      unfold mulOk at hm; unfold CMul
      omega
    · cases e
  · cases e
def fDiv : D → D → Option D
  | .int i, .int j => if 0 < j ∧ j < 18446744073709551616 then some (.int (i / j)) else none
  | _, _ => none
theorem o_div : Op2 G fDiv (binaryOp .FloorDiv) := by
  intro X Γ ok pins s σ H x y v u Q I rx ry h
  obtain ⟨F, dx, dy, d, sf, hx, hy, e, h⟩ := h
  unfold fDiv at e
  split at e
  · split at e
    · rename_i i j hm
      cases e; cases hx; cases hy
      exact op_fdivW pins s σ H _ _ v u Q I rx ry ⟨_, _, rfl, rfl, wide_div (b := 64) hm.1 (by have := hm.1; have := hm.2; omega) (by decide) (by decide), h _ F H (.refl sf) (.int _)⟩
    · cases e
  · cases e
def fMod : D → D → Option D
  | .int i, .int j => if 0 < j then some (.int (i % j)) else none
  | _, _ => none
theorem o_mod : Op2 G fMod (binaryOp .Mod) := by
  intro X Γ ok pins s σ H x y v u Q I rx ry h
  obtain ⟨F, dx, dy, d, sf, hx, hy, e, h⟩ := h
  unfold fMod at e
  split at e
  · split at e
    · cases e; cases hx; cases hy
      exact op_mod pins s σ H _ _ v u Q I rx ry ⟨_, _, rfl, rfl, by assumption, h _ F H (.refl sf) (.int _)⟩
    · cases e
  · cases e
def fPow : D → D → Option D
  | .int i, .int j => if (0 ≤ j ∧ j ≤ 1000) ∧ (-1000000 < i ∧ i < 1000000) then some (.int (i ^ j.toNat)) else none
  | _, _ => none
theorem o_pow : Op2 G fPow (binaryOp .Pow) := by
  intro X Γ ok pins s σ H x y v u Q I rx ry h
  obtain ⟨F, dx, dy, d, sf, hx, hy, e, h⟩ := h
  unfold fPow at e
  split at e
  · split at e
    · rename_i hm
      cases e; cases hx; cases hy
      exact op_pow pins s σ H _ _ v u Q I rx ry ⟨_, _, rfl, rfl, ⟨hm.1.1, by omega, by omega⟩, h _ F H (.refl sf) (.int _)⟩
    · cases e
  · cases e

/-! ### ==, != -/
def eqD (x y : D) : Option Bool := match x, y with
  | .int i, .int j => some (decide (i = j))
  | .str i, .str j => some (decide (i = j))
  | .bl i, .bl j => some (decide (i = j))
  | x, y => match x.py, y.py with
    | some p, some q => if min p.depth q.depth ≤ 64 then some (PyData.eqv p q) else none
    | _, _ => none
def fEq (x y : D) : Option D := (eqD x y).map .bl
def fNe (x y : D) : Option D := (eqD x y).map fun b => .bl (!b)
theorem eqD_py {x y : D} {b : Bool} (e : eqD x y = some b) : ∃ p q, x.py = some p ∧ y.py = some q ∧ min p.depth q.depth ≤ 64 ∧ b = PyData.eqv p q := by
  unfold eqD at e
  split at e
  · rename_i i j
    cases e; exact ⟨.int i, .int j, rfl, rfl, by simp [PyData.depth], by unfold PyData.eqv; first | rfl | simp⟩
  · rename_i i j
    cases e; exact ⟨.str i, .str j, rfl, rfl, by simp [PyData.depth], by unfold PyData.eqv; first | rfl | simp⟩
  · rename_i i j
    cases e; exact ⟨.bool i, .bool j, rfl, rfl, by simp [PyData.depth], by unfold PyData.eqv; first | rfl | simp⟩
  · split at e
    · rename_i p q e1 e2
      split at e
      · cases e; exact ⟨p, q, e1, e2, by assumption, rfl⟩
      · cases e
    · cases e
theorem o_eq : Op2 G fEq (compareOp .Eq) := by
  intro X Γ ok pins s σ H x y v u Q I rx ry h
  obtain ⟨F, dx, dy, d, sf, hx, hy, e, h⟩ := h
  unfold fEq at e
  cases e1 : eqD dx dy with
  | none => rw [e1] at e; cases e
  | some b =>
    rw [e1] at e; cases e
    obtain ⟨p, q, e2, e3, hd, eb⟩ := eqD_py e1
    obtain ⟨as, r1⟩ := Rp.rd ok I sf hx e2 rx
    obtain ⟨bs, r2⟩ := Rp.rd ok I sf hy e3 ry
    refine SeqAt.eq_plain r1 r2 (D.py_plain e2) (D.py_plain e3) (by have := ok.units; omega) ?_
    exact ep_sc (x := .bl b) I sf (by rw [eb]; rfl) (fun _ => .bl _) h
theorem o_ne : Op2 G fNe (compareOp .NotEq) := by
  intro X Γ ok pins s σ H x y v u Q I rx ry h
  obtain ⟨F, dx, dy, d, sf, hx, hy, e, h⟩ := h
  unfold fNe at e
  cases e1 : eqD dx dy with
  | none => rw [e1] at e; cases e
  | some b =>
    rw [e1] at e; cases e
    obtain ⟨p, q, e2, e3, hd, eb⟩ := eqD_py e1
    obtain ⟨as, r1⟩ := Rp.rd ok I sf hx e2 rx
    obtain ⟨bs, r2⟩ := Rp.rd ok I sf hy e3 ry
    refine SeqAt.ne_plain r1 r2 (D.py_plain e2) (D.py_plain e3) (by have := ok.units; omega) ?_
    exact ep_sc (x := .bl (!b)) I sf (by rw [eb]; rfl) (fun _ => .bl _) h

/-! ### <, <=, >, >= -/
def pyN : PyData → Bool | .none => true | _ => false
theorem pyN_ne {p : PyData} (h : pyN p = false) : p ≠ .none := by rintro rfl; cases h
/-- is x less than y -/
def ltD (x y : D) : Option Bool := match x, y with
  | .int i, .int j => some (decide (i < j))
  | x, y => match x.py, y.py with
    | some p, some q => if W.alike p q = true ∧ p.depth ≤ 64 ∧ q.depth ≤ 64 ∧ pyN p = false ∧ pyN q = false then some (W.dataLt p q) else none
    | _, _ => none
def fLt (x y : D) : Option D := (ltD x y).map .bl
def fGt (x y : D) : Option D := (ltD y x).map .bl
def fLe (x y : D) : Option D := (ltD y x).map fun b => .bl (!b)
def fGe (x y : D) : Option D := (ltD x y).map fun b => .bl (!b)
end
end Eng

end
section
set_option Elab.async false
set_option linter.all false
set_option maxRecDepth 100000
set_option maxHeartbeats 4000000
/-! the engine, part 5: comparisons, in, is, items, slices -/
namespace Eng
open PySem PySem.Spec PyProof.Rows L2
section
variable {G : Gd} {Γ : Gm}
theorem ltD_py {x y : D} {b : Bool} (e : ltD x y = some b) : ∃ p q, x.py = some p ∧ y.py = some q ∧ W.alike p q = true ∧ p.depth ≤ 64 ∧ q.depth ≤ 64 ∧ p ≠ .none ∧ q ≠ .none ∧ ((∃ i j, x = .int i ∧ y = .int j ∧ b = decide (i < j)) ∨ b = W.dataLt p q) := by
  unfold ltD at e
  split at e
  · rename_i i j
    cases e
    exact ⟨.int i, .int j, rfl, rfl, rfl, by simp [PyData.depth], by simp [PyData.depth], (fun h => nomatch h), (fun h => nomatch h), .inl ⟨i, j, rfl, rfl, rfl⟩⟩
  · split at e
    · rename_i p q e1 e2
      split at e
      · rename_i h
        cases e
        exact ⟨p, q, e1, e2, h.1, h.2.1, h.2.2.1, pyN_ne h.2.2.2.1, pyN_ne h.2.2.2.2, .inr rfl⟩
      · cases e
    · cases e
theorem ab_of {x y : D} {b : Bool} {f : Bool → D} {d : D} (h : Option.map f (ltD x y) = some d) (hf : True) : ∃ b, ltD x y = some b ∧ d = f b := by
  cases e : ltD x y with
  | none => rw [e] at h; cases h
  | some b => rw [e] at h; cases h; exact ⟨b, rfl, rfl⟩
theorem o_lt : Op2 G fLt (compareOp .Lt) := by
  intro X Γ ok pins s σ H x y v u Q I rx ry h
  obtain ⟨F, dx, dy, d, sf, hx, hy, e, h⟩ := h
  obtain ⟨b, e1, rfl⟩ := ab_of (b := true) e trivial
  obtain ⟨p, q, e2, e3, hl, d1, d2, n1, n2, c⟩ := ltD_py e1
  rcases c with ⟨i, j, rfl, rfl, rfl⟩ | rfl
  · cases hx; cases hy
    exact op_lt pins s σ H _ _ v u Q I rx ry ⟨_, _, rfl, rfl, h _ F H (.refl sf) (.bl _)⟩
  · obtain ⟨as, r1⟩ := Rp.rd ok I sf hx e2 rx
    obtain ⟨bs, r2⟩ := Rp.rd ok I sf hy e3 ry
    exact W.lt_data r1 r2 hl n1 (by have := ok.units; omega) (ep_sc (x := .bl _) I sf rfl (fun _ => .bl _) h)
theorem o_gt : Op2 G fGt (compareOp .Gt) := by
  intro X Γ ok pins s σ H x y v u Q I rx ry h
  obtain ⟨F, dx, dy, d, sf, hx, hy, e, h⟩ := h
  obtain ⟨b, e1, rfl⟩ := ab_of (b := true) e trivial
  obtain ⟨p, q, e2, e3, hl, d1, d2, n1, n2, c⟩ := ltD_py e1
  rcases c with ⟨i, j, rfl, rfl, rfl⟩ | rfl
  · cases hx; cases hy
    exact op_gt pins s σ H _ _ v u Q I rx ry ⟨_, _, rfl, rfl, h _ F H (.refl sf) (.bl _)⟩
  · obtain ⟨as, r1⟩ := Rp.rd ok I sf hx e3 rx
    obtain ⟨bs, r2⟩ := Rp.rd ok I sf hy e2 ry
    exact W.gt_data r1 r2 (by rw [W.alike_comm]; exact hl) n2 (by have := ok.units; omega) (ep_sc (x := .bl _) I sf rfl (fun _ => .bl _) h)
theorem o_le : Op2 G fLe (compareOp .LtE) := by
  intro X Γ ok pins s σ H x y v u Q I rx ry h
  obtain ⟨F, dx, dy, d, sf, hx, hy, e, h⟩ := h
  obtain ⟨b, e1, rfl⟩ := ab_of (b := true) e trivial
  obtain ⟨p, q, e2, e3, hl, d1, d2, n1, n2, c⟩ := ltD_py e1
  rcases c with ⟨i, j, rfl, rfl, rfl⟩ | rfl
  · cases hx; cases hy
    refine op_le pins s σ H _ _ v u Q I rx ry ⟨_, _, rfl, rfl, h _ F H (.refl sf) ?_⟩
    rw [W.cmp_not_lt]; exact .bl _
  · obtain ⟨as, r1⟩ := Rp.rd ok I sf hx e3 rx
    obtain ⟨bs, r2⟩ := Rp.rd ok I sf hy e2 ry
    exact W.le_data r1 r2 (by rw [W.alike_comm]; exact hl) n2 (by have := ok.units; omega) (ep_sc (x := .bl _) I sf rfl (fun _ => .bl _) h)
theorem o_ge : Op2 G fGe (compareOp .GtE) := by
  intro X Γ ok pins s σ H x y v u Q I rx ry h
  obtain ⟨F, dx, dy, d, sf, hx, hy, e, h⟩ := h
  obtain ⟨b, e1, rfl⟩ := ab_of (b := true) e trivial
  obtain ⟨p, q, e2, e3, hl, d1, d2, n1, n2, c⟩ := ltD_py e1
  rcases c with ⟨i, j, rfl, rfl, rfl⟩ | rfl
  · cases hx; cases hy
    refine op_ge pins s σ H _ _ v u Q I rx ry ⟨_, _, rfl, rfl, h _ F H (.refl sf) ?_⟩
    rw [W.cmp_not_lt]; exact .bl _
  · obtain ⟨as, r1⟩ := Rp.rd ok I sf hx e2 rx
    obtain ⟨bs, r2⟩ := Rp.rd ok I sf hy e3 ry
    exact W.ge_data r1 r2 hl n1 (by have := ok.units; omega) (ep_sc (x := .bl _) I sf rfl (fun _ => .bl _) h)

/-! ### is None -/
def isN : D → Bool | .non => true | _ => false
def isD (x y : D) : Option Bool := if isN y = true then some (isN x) else match x, y with | .bl a, .bl b => some (decide (a = b)) | _, _ => none
def fIs (x y : D) : Option D := (isD x y).map .bl
def fIsN (x y : D) : Option D := (isD x y).map fun b => .bl (!b)
theorem Rp.isN {K : PySem.W.Frag} {mg : Str → Option Value} {F : Hp} {v : V} {d : D} (r : Rp K mg F v d) : decide (v = .non) = isN d := by
  cases r <;> rfl
theorem isN_non {K : PySem.W.Frag} {mg : Str → Option Value} {F : Hp} {v : V} {d : D} (r : Rp K mg F v d) (h : Eng.isN d = true) : v = .non := by
  cases r <;> first | rfl | (cases h; done)
theorem map_some {α β : Type} {f : α → β} {o : Option α} {d : β} (h : o.map f = some d) : ∃ b, o = some b ∧ d = f b := by
  cases o with
  | none => cases h
  | some b => cases h; exact ⟨b, rfl, rfl⟩
theorem o_is : Op2 G fIs (compareOp .Is) := by
  intro X Γ ok pins s σ H x y v u Q I rx ry h
  obtain ⟨F, dx, dy, d, sf, hx, hy, e, h⟩ := h
  obtain ⟨b, e1, rfl⟩ := map_some e
  unfold isD at e1
  split at e1
  · rename_i hn
    cases e1
    obtain rfl := isN_non hy hn
    refine op_isN pins s σ H x .non v u Q I rx ry ⟨rfl, ?_⟩
    rw [hx.isN]
    exact h _ F H (.refl sf) (.bl _)
  · split at e1
    · cases e1; cases hx; cases hy
      rename_i a c _
      have q := h (.bl (decide (a = c))) F H (.refl sf) (.bl _)
      exact op_isBl pins s σ H _ _ v u Q I rx ry ⟨a, c, rfl, rfl, q⟩
    · cases e1
theorem o_isN : Op2 G fIsN (compareOp .IsNot) := by
  intro X Γ ok pins s σ H x y v u Q I rx ry h
  obtain ⟨F, dx, dy, d, sf, hx, hy, e, h⟩ := h
  obtain ⟨b, e1, rfl⟩ := map_some e
  unfold isD at e1
  split at e1
  · rename_i hn
    cases e1
    obtain rfl := isN_non hy hn
    refine op_notN pins s σ H x .non v u Q I rx ry ⟨rfl, ?_⟩
    rw [hx.isN]
    exact h _ F H (.refl sf) (.bl _)
  · split at e1
    · cases e1; cases hx; cases hy
      rename_i a c _
      have q := h (.bl (!(decide (a = c)))) F H (.refl sf) (.bl _)
      exact op_notBl pins s σ H _ _ v u Q I rx ry ⟨a, c, rfl, rfl, q⟩
    · cases e1

/-! ### keys -/
def keyD : D → Option Key | .int i => some (.inl i) | .str s => some (.inr s) | _ => none
def keysD : List D → Option (List Key)
  | [] => some []
  | d :: ds => (keyD d).bind fun k => (keysD ds).map (k :: ·)
theorem bind_some {α β : Type} {f : α → Option β} {o : Option α} {d : β} (h : o.bind f = some d) : ∃ b, o = some b ∧ f b = some d := by
  cases o with
  | none => cases h
  | some b => exact ⟨b, rfl, h⟩
theorem Rp.keyD {K : PySem.W.Frag} {mg : Str → Option Value} {F : Hp} {v : V} {d : D} {k : Key} (r : Rp K mg F v d) (e : Eng.keyD d = some k) : v = kV k := by
  cases r <;> first | (cases e; done) | (cases e; rfl)
theorem RpA.keysD {K : PySem.W.Frag} {mg : Str → Option Value} {F : Hp} : ∀ {vs : List V} {ds : List D} {ks : List Key}, RpA K mg F vs ds → Eng.keysD ds = some ks → vs = ks.map kV
  | _, _, _, .nil, e => by cases e; rfl
  | _, _, _, .cons r t, e => by
    unfold Eng.keysD at e
    obtain ⟨k, e1, e2⟩ := bind_some e
    obtain ⟨ks, e3, rfl⟩ := map_some e2
    rw [r.keyD e1, t.keysD e3]; rfl
def valD {κ : Type} [DecidableEq κ] (kvs : List (κ × D)) (k : κ) : Option D := (kvs.find? fun kv => decide (kv.1 = k)).map (·.2)
theorem RpK.val {K : PySem.W.Frag} {mg : Str → Option Value} {F : Hp} {k : Key} : ∀ {vs : List (Key × V)} {ds : List (Key × D)}, RpK K mg F vs ds → (valV vs k = none ∧ valD ds k = none) ∨ ∃ v d, valV vs k = some v ∧ valD ds k = some d ∧ Rp K mg F v d
  | _, _, .nil => .inl ⟨rfl, rfl⟩
  | _, _, .cons (x := x) (v := v) (vs := vs) (d := d) (ds := ds) r t => by
    by_cases e : x = k
    · exact .inr ⟨v, d, by simp [valV, e], by simp [valD, e], r⟩
    · rcases RpK.val (k := k) t with h | ⟨v', d', h1, h2, h3⟩
      · refine .inl ?_
        simp only [valV, valD, List.find?_cons, decide_eq_false e] at h ⊢
        exact h
      · refine .inr ⟨v', d', ?_, ?_, h3⟩
        · simp only [valV, List.find?_cons, decide_eq_false e] at h1 ⊢; exact h1
        · simp only [valD, List.find?_cons, decide_eq_false e] at h2 ⊢; exact h2
theorem RpT.val {K : PySem.W.Frag} {mg : Str → Option Value} {F : Hp} {k : List Key} : ∀ {vs : List (List Key × V)} {ds : List (List Key × D)}, RpT K mg F vs ds → (valV vs k = none ∧ valD ds k = none) ∨ ∃ v d, valV vs k = some v ∧ valD ds k = some d ∧ Rp K mg F v d
  | _, _, .nil => .inl ⟨rfl, rfl⟩
  | _, _, .cons (x := x) (v := v) (vs := vs) (d := d) (ds := ds) r t => by
    by_cases e : x = k
    · exact .inr ⟨v, d, by simp [valV, e], by simp [valD, e], r⟩
    · rcases RpT.val (k := k) t with h | ⟨v', d', h1, h2, h3⟩
      · refine .inl ?_
        simp only [valV, valD, List.find?_cons, decide_eq_false e] at h ⊢
        exact h
      · refine .inr ⟨v', d', ?_, ?_, h3⟩
        · simp only [valV, List.find?_cons, decide_eq_false e] at h1 ⊢; exact h1
        · simp only [valD, List.find?_cons, decide_eq_false e] at h2 ⊢; exact h2
theorem RpK.length {K : PySem.W.Frag} {mg : Str → Option Value} {F : Hp} : ∀ {vs : List (Key × V)} {ds : List (Key × D)}, RpK K mg F vs ds → vs.length = ds.length
  | _, _, .nil => rfl
  | _, _, .cons _ t => congrArg (· + 1) (RpK.length t)
theorem RpT.length {K : PySem.W.Frag} {mg : Str → Option Value} {F : Hp} : ∀ {vs : List (List Key × V)} {ds : List (List Key × D)}, RpT K mg F vs ds → vs.length = ds.length
  | _, _, .nil => rfl
  | _, _, .cons _ t => congrArg (· + 1) (RpT.length t)
/-- what a dict holds at a key: none where it can't be asked -/
def getD? (d k : D) : Option (Option D) := match d with
  | .dk ds => (keyD k).map fun j => valD ds j
  | .dt ds => match k with | .tup ks => (keysD ks).map fun j => valD ds j | _ => none
  | _ => none
theorem getD_of {K : PySem.W.Frag} {mg : Str → Option Value} {F H : Hp} {v y : V} {d k : D} {o : Option D} (sf : Same F H) (r : Rp K mg F v d) (ry : Rp K mg F y k) (e : getD? d k = some o) :
    ∃ a r, v = .ref a ∧ DGet H a y r ∧ ((r = none ∧ o = none) ∨ ∃ z w, r = some z ∧ o = some w ∧ Rp K mg F z w) := by
  unfold getD? at e
  split at e
  · obtain ⟨j, e1, rfl⟩ := map_some e
    cases r with
    | dk hF rr =>
      rcases RpK.val (k := j) rr with ⟨h1, h2⟩ | ⟨z, w, h1, h2, h3⟩
      · exact ⟨_, none, rfl, .inl ⟨_, j, Same.rd sf hF, ry.keyD e1, h1.symm⟩, .inl ⟨rfl, h2⟩⟩
      · exact ⟨_, some z, rfl, .inl ⟨_, j, Same.rd sf hF, ry.keyD e1, h1.symm⟩, .inr ⟨z, w, rfl, h2, h3⟩⟩
  · split at e
    · obtain ⟨j, e1, rfl⟩ := map_some e
      cases r with
      | dt hF rr =>
        cases ry with
        | tup hT rt =>
          obtain rfl := rt.keysD e1
          rcases RpT.val (k := j) rr with ⟨h1, h2⟩ | ⟨z, w, h1, h2, h3⟩
          · exact ⟨_, none, rfl, .inr ⟨_, j, _, Same.rd sf hF, rfl, sf _ _ hT, h1.symm⟩, .inl ⟨rfl, h2⟩⟩
          · exact ⟨_, some z, rfl, .inr ⟨_, j, _, Same.rd sf hF, rfl, sf _ _ hT, h1.symm⟩, .inr ⟨z, w, rfl, h2, h3⟩⟩
    · cases e
  · cases e

/-! ### in -/
def inD (x y : D) : Option Bool := match x, y with
  | .str z, .str t => if z.cps.size = 1 then some (decide (z.cps.getD 0 0 ∈ t.cps.toList)) else none
  | x, .lst ys => match x.py, D.pyA ys with
    | some p, some ps => if min (PyData.depthAll ps) p.depth ≤ 64 then some (ps.any fun q => PyData.eqv q p) else none
    | _, _ => none
  | x, .tup ys => match x.py, D.pyA ys with
    | some p, some ps => if min (PyData.depthAll ps) p.depth ≤ 64 then some (ps.any fun q => PyData.eqv q p) else none
    | _, _ => none
  | x, .dk ds => (getD? (.dk ds) x).map (·.isSome)
  | x, .dt ds => (getD? (.dt ds) x).map (·.isSome)
  | _, _ => none
def fIn (x y : D) : Option D := (inD x y).map .bl
def fNin (x y : D) : Option D := (inD x y).map fun b => .bl (!b)
theorem py_lst {ys : List D} {ps : List PyData} (h : D.pyA ys = some ps) : (D.lst ys).py = some (.list ps) := by unfold D.py; rw [h]; rfl
theorem py_tup {ys : List D} {ps : List PyData} (h : D.pyA ys = some ps) : (D.tup ys).py = some (.tuple ps) := by unfold D.py; rw [h]; rfl
theorem one_sign {z : Str} (h : z.cps.size = 1) : z = ⟨#[z.cps.getD 0 0]⟩ := by
  obtain ⟨a⟩ := z
  obtain ⟨l⟩ := a
  cases l with
  | nil => cases h
  | cons c r =>
    cases r with
    | nil => rfl
    | cons b r => simp at h
theorem o_in : Op2 G fIn (compareOp .In) := by
  intro X Γ ok pins s σ H x y v u Q I rx ry h
  obtain ⟨F, dx, dy, d, sf, hx, hy, e, h⟩ := h
  obtain ⟨b, e1, rfl⟩ := map_some e
  have uu := ok.units
  unfold inD at e1
  split at e1
  · split at e1
    · rename_i z t hz
      cases e1; cases hx; cases hy
      refine op_in_sign pins s σ H _ _ v u Q I rx ry ⟨z.cps.getD 0 0, t, ?_, rfl, h _ F H (.refl sf) (.bl _)⟩
      rw [← one_sign hz]
    · cases e1
  · split at e1
    · rename_i p ps e2 e3
      split at e1
      · cases e1
        obtain ⟨as, r1⟩ := Rp.rd ok I sf hx e2 rx
        obtain ⟨bs, r2⟩ := Rp.rd ok I sf hy (py_lst e3) ry
        exact SeqAt.in_list_data r2 r1 (D.pyA_plain e3) (D.py_plain e2) (by omega) (ep_sc (x := .bl _) I sf rfl (fun _ => .bl _) h)
      · cases e1
    · cases e1
  · split at e1
    · rename_i p ps e2 e3
      split at e1
      · cases e1
        obtain ⟨as, r1⟩ := Rp.rd ok I sf hx e2 rx
        obtain ⟨bs, r2⟩ := Rp.rd ok I sf hy (py_tup e3) ry
        exact SeqAt.in_tuple_data r2 r1 (D.pyA_plain e3) (D.py_plain e2) (by omega) (ep_sc (x := .bl _) I sf rfl (fun _ => .bl _) h)
      · cases e1
    · cases e1
  · obtain ⟨o, e2, rfl⟩ := map_some e1
    obtain ⟨a, r, rfl, g, c⟩ := getD_of sf hy hx e2
    cases ry
    refine d_in (by omega) I g rx fun s' I' => ⟨.bl r.isSome, H, I', rfl, ?_⟩
    have : r.isSome = o.isSome := by rcases c with ⟨rfl, rfl⟩ | ⟨z, w, rfl, rfl, _⟩ <;> rfl
    rw [this]
    exact h _ F H (.refl sf) (.bl _)
  · obtain ⟨o, e2, rfl⟩ := map_some e1
    obtain ⟨a, r, rfl, g, c⟩ := getD_of sf hy hx e2
    cases ry
    refine d_in (by omega) I g rx fun s' I' => ⟨.bl r.isSome, H, I', rfl, ?_⟩
    have : r.isSome = o.isSome := by rcases c with ⟨rfl, rfl⟩ | ⟨z, w, rfl, rfl, _⟩ <;> rfl
    rw [this]
    exact h _ F H (.refl sf) (.bl _)
  · cases e1
theorem o_nin : Op2 G fNin (compareOp .NotIn) := by
  intro X Γ ok pins s σ H x y v u Q I rx ry h
  obtain ⟨F, dx, dy, d, sf, hx, hy, e, h⟩ := h
  obtain ⟨b, e1, rfl⟩ := map_some e
  have uu := ok.units
  unfold inD at e1
  split at e1
  · split at e1
    · rename_i z t hz
      cases e1; cases hx; cases hy
      refine op_notIn_sign pins s σ H _ _ v u Q I rx ry ⟨z.cps.getD 0 0, t, ?_, rfl, h _ F H (.refl sf) (.bl _)⟩
      rw [← one_sign hz]
    · cases e1
  · split at e1
    · rename_i p ps e2 e3
      split at e1
      · cases e1
        obtain ⟨as, r1⟩ := Rp.rd ok I sf hx e2 rx
        obtain ⟨bs, r2⟩ := Rp.rd ok I sf hy (py_lst e3) ry
        exact SeqAt.notIn_list_data r2 r1 (D.pyA_plain e3) (D.py_plain e2) (by omega) (ep_sc (x := .bl _) I sf rfl (fun _ => .bl _) h)
      · cases e1
    · cases e1
  · split at e1
    · rename_i p ps e2 e3
      split at e1
      · cases e1
        obtain ⟨as, r1⟩ := Rp.rd ok I sf hx e2 rx
        obtain ⟨bs, r2⟩ := Rp.rd ok I sf hy (py_tup e3) ry
        exact SeqAt.notIn_tuple_data r2 r1 (D.pyA_plain e3) (D.py_plain e2) (by omega) (ep_sc (x := .bl _) I sf rfl (fun _ => .bl _) h)
      · cases e1
    · cases e1
  · obtain ⟨o, e2, rfl⟩ := map_some e1
    obtain ⟨a, r, rfl, g, c⟩ := getD_of sf hy hx e2
    cases ry
    refine d_notIn (by omega) I g rx fun s' I' => ⟨.bl (!r.isSome), H, I', rfl, ?_⟩
    have : r.isSome = o.isSome := by rcases c with ⟨rfl, rfl⟩ | ⟨z, w, rfl, rfl, _⟩ <;> rfl
    rw [this]
    exact h _ F H (.refl sf) (.bl _)
  · obtain ⟨o, e2, rfl⟩ := map_some e1
    obtain ⟨a, r, rfl, g, c⟩ := getD_of sf hy hx e2
    cases ry
    refine d_notIn (by omega) I g rx fun s' I' => ⟨.bl (!r.isSome), H, I', rfl, ?_⟩
    have : r.isSome = o.isSome := by rcases c with ⟨rfl, rfl⟩ | ⟨z, w, rfl, rfl, _⟩ <;> rfl
    rw [this]
    exact h _ F H (.refl sf) (.bl _)
  · cases e1

/-! ### a[i] -/
def fIx : D → D → Option D
  | .lst ds, .int i => atI ds i
  | .tup ds, .int i => atI ds i
  | .str z, .int i => if z.length ≤ sizeLine then (atI z.cps.toList i).map fun c => .str ⟨#[c]⟩ else none
  | .dk ds, k => (getD? (.dk ds) k).bind fun o => o
  | .dt ds, k => (getD? (.dt ds) k).bind fun o => o
  | _, _ => none
/-- the end of a dict's subscript -/
theorem tail_dict {X : Cx} {pins : List (Addr × Obj)} {s : Shared} {σ : L2.St} {H : Hp} {value slice : Expr} {a : Addr} {y : V} {u : Value} {z : V} {Q : VK} (hu : X.A.units + 1 < cLine) (I : Inv X pins σ H s) (g : DGet H a y (some z)) (ry : RelV y u) (q : Q z H)
    (hs : subscripted slice false (.ref a) u = operate [.ref a, u] (getItem (.ref a) u)) : wpAny (model X.prog X.w) X.A (subscriptTail value slice (.ref a) u) (EP X pins σ Q) X.xe s := by
  have hT := dict_typeIs I g
  unfold subscriptTail
  refine wpAny_bind ?_
  rw [getitemInPython_of_ne hT.not_modules]
  refine wpAny_bind (wpAny_specialOf hT PySem.F.slot_dict_getitem.lookup ?_)
  have fin : wpAny (model X.prog X.w) X.A (subscripted slice false (.ref a) u) (fun r s₃ => wpAny (model X.prog X.w) X.A (letTemporaryGo value (.ref a) r >>= fun _ => pure r) (EP X pins σ Q) X.xe s₃) X.xe s := by
    rw [hs]
    exact wpAny_operating (d_getItem hu I g ry fun w' s3 I3 rw' => wpAny_bind (wpAny_letTemporaryGo (wpAny_pure ⟨z, H, I3, rw', q⟩)))
  first
    | exact wpAny_pure (wpAny_bind fin)
    | exact wpAny_bind (wpAny_pure (wpAny_bind fin))
    | exact wpAny_bind fin
theorem RpA.get {K : PySem.W.Frag} {mg : Str → Option Value} {F : Hp} : ∀ {vs : List V} {ds : List D} {i : Nat} {d : D}, RpA K mg F vs ds → ds[i]? = some d → ∃ v, vs[i]? = some v ∧ Rp K mg F v d
  | _, _, i, d, .nil, h => by simp at h
  | _, _, 0, d, .cons r t, h => by simp at h; subst h; exact ⟨_, rfl, r⟩
  | _, _, i + 1, d, .cons r t, h => by
    obtain ⟨v, h1, h2⟩ := RpA.get (i := i) t (by simpa using h)
    exact ⟨v, by simpa using h1, h2⟩
theorem RpA.atI {K : PySem.W.Frag} {mg : Str → Option Value} {F : Hp} {vs : List V} {ds : List D} {i : Int} {d : D} (r : RpA K mg F vs ds) (h : L2.atI ds i = some d) : ∃ v, L2.atI vs i = some v ∧ Rp K mg F v d := by
  unfold L2.atI at h ⊢
  rw [r.length]
  cases e : ixN ds.length i with
  | none => rw [e] at h; cases h
  | some j =>
    rw [e] at h
    obtain ⟨v, h1, h2⟩ := r.get (i := j) h
    exact ⟨v, h1, h2⟩
theorem x_ix {X : Cx} (ok : Γ.Ok G X) : IxR X (rV G fIx) := by
  intro value slice pins s σ H x y v u Q I rx ry h hs
  obtain ⟨F, dx, dy, d, sf, hx, hy, e, h⟩ := h
  unfold fIx at e
  split at e
  · cases hy
    cases hx with
    | lst h1 r1 =>
      obtain ⟨w, e1, rw1⟩ := r1.atI e
      exact ix_list value slice pins s σ H _ _ v u Q I rx ry ⟨_, _, _, w, rfl, rfl, (by rw [ok.K]; exact Same.seq sf h1), e1, h w F H (.refl sf) rw1⟩ hs
  · cases hy
    cases hx with
    | tup h1 r1 =>
      obtain ⟨w, e1, rw1⟩ := r1.atI e
      exact ix_tup value slice pins s σ H _ _ v u Q I rx ry ⟨_, _, _, w, rfl, rfl, by rw [ok.K]; exact sf.tq h1, e1, h w F H (.refl sf) rw1⟩ hs
  · split at e
    · obtain ⟨c, e1, rfl⟩ := map_some e
      cases hy; cases hx
      exact ix_str value slice pins s σ H _ _ v u Q I rx ry ⟨_, _, c, rfl, rfl, by assumption, e1, h _ F H (.refl sf) (.str _)⟩ hs
    · cases e
  · obtain ⟨o, e1, rfl⟩ := bind_some e
    obtain ⟨a, r, rfl, g, c⟩ := getD_of sf hx hy e1
    rcases c with ⟨_, c⟩ | ⟨z, w, rfl, c, rw1⟩
    · cases c
    · cases c
      cases rx
      exact tail_dict (by have := ok.units; omega) I g ry (h z F H (.refl sf) rw1) hs
  · obtain ⟨o, e1, rfl⟩ := bind_some e
    obtain ⟨a, r, rfl, g, c⟩ := getD_of sf hx hy e1
    rcases c with ⟨_, c⟩ | ⟨z, w, rfl, c, rw1⟩
    · cases c
    · cases c
      cases rx
      exact tail_dict (by have := ok.units; omega) I g ry (h z F H (.refl sf) rw1) hs
  · cases e
def plainIx : Expr → Bool | .Slice _ _ _ _ => false | .Tuple _ _ _ => false | .Constant _ _ _ => true | .Name _ _ => true | .BinOp _ _ _ _ => true | .UnaryOp _ _ _ => true | .Subscript _ _ _ => true | .Call _ _ _ _ => true | .Attribute _ _ _ => true | _ => false
theorem plainIx_of {b : Expr} (h : plainIx b = true) : PlainIx b := by
  cases b <;> first | (cases h; done) | (exact fun _ _ => rfl)
theorem ce_ix {a b : Expr} {ma mb : Sl → R D} {pos : Pos} (hp : plainIx b = true) (ha : CE G Γ a ma) (hb : CE G Γ b mb) : CE G Γ (.Subscript a b pos) (m2 fIx ma mb) :=
  fun X ok W tk => PE.imp (pe_ix (x_ix ok) (ha X ok W tk) (hb X ok W tk) (plainIx_of hp)) fun _ _ _ h => two h

/-! ### a[lo:hi] -/
def cut {α : Type} (xs : List α) (lo hi : Option Int) : List α := (xs.drop (HT.sIx xs.length 0 lo)).take (HT.sIx xs.length xs.length hi - HT.sIx xs.length 0 lo)
theorem RpA.cut {K : PySem.W.Frag} {mg : Str → Option Value} {F : Hp} {vs : List V} {ds : List D} (r : RpA K mg F vs ds) (lo hi : Option Int) : RpA K mg F (cutV vs lo hi) (Eng.cut ds lo hi) := by
  have td : ∀ (n : Nat) {vs : List V} {ds : List D}, RpA K mg F vs ds → RpA K mg F (vs.drop n) (ds.drop n) := by
    intro n
    induction n with
    | zero => intro vs ds r; exact r
    | succ n ih => intro vs ds r; cases r with
      | nil => exact .nil
      | cons r t => exact ih t
  have tt : ∀ (n : Nat) {vs : List V} {ds : List D}, RpA K mg F vs ds → RpA K mg F (vs.take n) (ds.take n) := by
    intro n
    induction n with
    | zero => intro vs ds r; exact .nil
    | succ n ih => intro vs ds r; cases r with
      | nil => exact .nil
      | cons r t => exact .cons r (ih t)
  unfold cutV Eng.cut
  rw [r.length]
  exact tt _ (td _ r)
def fSl : D → Option Int → Option Int → Option D
  | .lst ds, lo, hi => some (.lst (cut ds lo hi))
  | .tup ds, lo, hi => some (.tup (cut ds lo hi))
  | .str z, lo, hi => if z.length ≤ sizeLine then some (.str (cutS z lo hi)) else none
  | _, _, _ => none
theorem cut_all {α : Type} {xs : List α} {lo hi : Option Int} (h : HT.sIx xs.length 0 lo = 0 ∧ HT.sIx xs.length xs.length hi = xs.length) : cut xs lo hi = xs := by
  unfold cut; rw [h.1, h.2]; simp
def rSl (G : Gd) (f : D → Option Int → Option Int → Option D) : V → Option Int → Option Int → Hp → VK → Prop := fun x lo hi H Q => ∃ F dx d, Same F H ∧ Rp G.K G.mg F x dx ∧ f dx lo hi = some d ∧ ∀ v F' H', Grow F H F' H' → Rp G.K G.mg F' v d → Q v H'
theorem x_sl {X : Cx} (ok : Γ.Ok G X) : SlR X (rSl G fSl) := by
  intro pins s σ H x v vl vu lo hi sl Q I rx hs pl pu h
  obtain ⟨F, dx, d, sf, hx, e, h⟩ := h
  unfold fSl at e
  split at e
  · cases e
    cases hx with
    | @lst _ us1 _ h1 r1 =>
      refine sl_list pins s σ H _ v vl vu lo hi sl Q I rx hs pl pu ⟨_, us1, rfl, (by rw [ok.K]; exact Same.seq sf h1), fun p hp => ?_⟩
      have g := Grow.new sf (.lst (cutV us1 lo hi)) hp
      exact h _ _ _ g (.lst (.inl (.inl upd_same)) (RpA.mono g.sF (r1.cut lo hi)))
  · cases e
    cases hx with
    | @tup _ us1 _ h1 r1 =>
      refine sl_tupA pins s σ H _ v vl vu lo hi sl Q I rx hs pl pu ⟨_, us1, rfl, by rw [ok.K]; exact sf.tq h1, fun hw => ?_, fun _ p hp => ?_⟩
      · refine h _ F H (.refl sf) ?_
        rw [r1.length] at hw
        rw [cut_all hw]; exact .tup h1 r1
      · have g := Grow.new sf (.tup (cutV us1 lo hi)) hp
        exact h _ _ _ g (.tup upd_same (RpA.mono g.sF (r1.cut lo hi)))
  · split at e
    · cases e; cases hx
      exact sl_str pins s σ H _ v vl vu lo hi sl Q I rx hs pl pu ⟨_, rfl, by assumption, h _ F H (.refl sf) (.str _)⟩
    · cases e
  · cases e
/-- a part of a slice -/
def asI : D → Option Int | .int i => some i | _ => none
theorem Rp.int_inv {K : PySem.W.Frag} {mg : Str → Option Value} {F : Hp} {v : V} {d : D} {b : Int} (r : Rp K mg F v d) (e : asI d = some b) : v = .int b := by
  cases r <;> first | (cases e; done) | (injection e with e; subst e; rfl)
def tOp1 (G : Gd) (W : WX) (m : Sl → R (Option Int)) : TO := fun σ H Q => ∃ B F0 L F A, Rl G B F0 L F A σ H ∧ pG G W σ F H (m L) fun d F' H' => Q d H'
def CP (G : Gd) (Γ : Gm) (e : Option Expr) (m : Sl → R (Option Int)) : Prop := ∀ X, Γ.Ok G X → ∀ W, Takes X W → PO X e (tOp1 G W m)
theorem PO.imp {X : Cx} {e : Option Expr} {t t' : TO} (h : PO X e t) (i : ∀ σ H Q, t' σ H Q → t σ H Q) : PO X e t' := ⟨fun pins s σ H Q I q => h.run pins s σ H Q I (i σ H Q q)⟩
def mNoP : Sl → R (Option Int) := fun _ => .ok none
def mP (m : Sl → R D) : Sl → R (Option Int) := fun L => (m L).bind fun d => (lift (asI d)).bind fun i => .ok (some i)
theorem cp_none : CP G Γ none mNoP := fun X ok W tk => PO.imp po_none fun σ H Q h => by
  obtain ⟨B, F0, L, F, A, R, h⟩ := h
  exact h F H (Grow.refl R.sf)
theorem cp_some {e : Expr} {m : Sl → R D} (he : CE G Γ e m) : CP G Γ (some e) (mP m) := fun X ok W tk => PO.imp (po_some (he X ok W tk)) fun σ H Q h => by
  obtain ⟨B, F0, L, F, A, R, h⟩ := h
  refine ⟨B, F0, L, F, A, R, (pG.bind h).imp R fun d F1 H1 s1 R1 g1 h1 v rv => ?_⟩
  cases e : asI d with
  | none => rw [e] at h1; exact h1.elim
  | some k => rw [e] at h1; exact ⟨k, rv.int_inv e, h1 F1 H1 (Grow.refl R1.sf)⟩
def mSl (m : Sl → R D) (lo hi : Sl → R (Option Int)) : Sl → R D := fun L => (m L).bind fun x => (lo L).bind fun i => (hi L).bind fun j => lift (fSl x i j)
theorem ce_sl {e : Expr} {lo hi : Option Expr} {m : Sl → R D} {ml mh : Sl → R (Option Int)} {p2 pos : Pos} (he : CE G Γ e m) (hl : CP G Γ lo ml) (hh : CP G Γ hi mh) : CE G Γ (.Subscript e (.Slice lo hi none p2) pos) (mSl m ml mh) := by
  refine fun X ok W tk => PE.imp (pe_slice (x_sl ok) (he X ok W tk) (hl X ok W tk) (hh X ok W tk)) fun σ H Q h => ?_
  obtain ⟨B, F0, L, F, A, R, h⟩ := h
  refine ⟨B, F0, L, F, A, R, (pG.bind h).imp R fun d F1 H1 s1 R1 g1 h1 v rv => ?_⟩
  refine ⟨B, F0, L, F1, A, R1, (pG.bind h1).imp R1 fun i F2 H2 s2 R2 g2 h2 => ?_⟩
  refine ⟨B, F0, L, F2, A, R2, (pG.bind h2).imp R2 fun j F3 H3 s3 R3 g3 h3 => ?_⟩
  cases e : fSl d i j with
  | none => rw [e] at h3; exact h3.elim
  | some r =>
    rw [e] at h3
    exact ⟨F3, d, r, R3.sf, rv.mono (s2.trans s3), e, fun v F' H' g rr => h3 F' H' g v rr⟩

/-! ### -x -/
def fNeg : D → Option D | .int i => some (.int (-i)) | _ => none
def m1 (f : D → Option D) (m : Sl → R D) : Sl → R D := fun L => (m L).bind fun x => lift (f x)
theorem ce_neg {a : Expr} {m : Sl → R D} {pos} (ha : CE G Γ a m) : CE G Γ (.UnaryOp .USub a pos) (m1 fNeg m) := by
  refine fun X ok W tk => PE.imp (pe_un un_neg (ha X ok W tk)) fun σ H Q h => ?_
  obtain ⟨B, F0, L, F, A, R, h⟩ := h
  refine ⟨B, F0, L, F, A, R, (pG.bind h).imp R fun d F1 H1 s1 R1 g1 h1 v rv => ?_⟩
  unfold fNeg at h1
  cases rv <;> first | exact h1.elim | skip
  exact ⟨_, rfl, h1 F1 H1 (Grow.refl R1.sf) _ (.int _)⟩

/-! ### a op b op c -/
def mCh (f g : D → D → Option D) (a b c : Sl → R D) : Sl → R D := fun L => (a L).bind fun x => (b L).bind fun y => (lift (f x y)).bind fun z => (lift (asB z)).bind fun k => if k = true then (c L).bind fun w => lift (g y w) else .ok (.bl false)
theorem chain {f g : D → D → Option D} {ma mb mc : Sl → R D} {W : WX} {σ : L2.St} {H : Hp} {Q : VK} (h : tE G W (mCh f g ma mb mc) σ H Q) : tChain (rV G f) (rV G g) (tE G W ma) (tE G W mb) (tE G W mc) σ H Q := by
  obtain ⟨B, F0, L, F, A, R, h⟩ := h
  refine ⟨B, F0, L, F, A, R, (pG.bind h).imp R fun dx F1 H1 s1 R1 g1 h1 x rx => ?_⟩
  refine ⟨B, F0, L, F1, A, R1, (pG.bind h1).imp R1 fun dy F2 H2 s2 R2 g2 h2 y ry => ?_⟩
  cases e : f dx dy with
  | none => rw [e] at h2; exact h2.elim
  | some z =>
    rw [e] at h2
    refine ⟨F2, dx, dy, z, R2.sf, rx.mono s2, ry, e, fun v F3 H3 g3 rv => ?_⟩
    have R3 := R2.gr g3
    have h3 : pG G W σ F3 H3 ((lift (asB z)).bind fun k => if k = true then (mc L).bind fun w => lift (g dy w) else .ok (.bl false)) (fun d F' H' => ∀ v, Rp G.K G.mg F' v d → Q v H') := pG.mono g3 h2
    cases e2 : asB z with
    | none => rw [e2] at h3; exact h3.elim
    | some k =>
      rw [e2] at h3
      refine ⟨k, rv.bl_inv e2, ?_⟩
      cases k with
      | false => exact iteF (h3 F3 H3 (Grow.refl R3.sf) _ (.bl false))
      | true =>
        have h3' : pG G W σ F3 H3 ((mc L).bind fun w => lift (g dy w)) (fun d F' H' => ∀ v, Rp G.K G.mg F' v d → Q v H') := h3
        refine iteT ⟨B, F0, L, F3, A, R3, (pG.bind h3').imp R3 fun dw F4 H4 s4 R4 g4 h4 w rw1 => ?_⟩
        cases e3 : g dy dw with
        | none => rw [e3] at h4; exact h4.elim
        | some r =>
          rw [e3] at h4
          exact ⟨F4, dy, dw, r, R4.sf, ry.mono (g3.sF.trans s4), rw1, e3, fun v F' H' g rr => h4 F' H' g v rr⟩
theorem ce_chain {f g : D → D → Option D} {op op' : CmpOp} {a b c : Expr} {ma mb mc : Sl → R D} {pos : Pos} (ho : Op2 G f (compareOp op)) (ho' : Op2 G g (compareOp op')) (hm : behindInMarks op' c = false) (ha : CE G Γ a ma) (hb : CE G Γ b mb) (hc : CE G Γ c mc) :
    CE G Γ (.Compare a [op, op'] [b, c] pos) (mCh f g ma mb mc) :=
  fun X ok W tk => PE.imp (pe_chain (ho X Γ ok) (ho' X Γ ok) (ha X ok W tk) (hb X ok W tk) (hc X ok W tk) hm) fun _ _ _ h => chain h
theorem ct_chain {f g : D → D → Option D} {op op' : CmpOp} {a b c : Expr} {ma mb mc : Sl → R D} {pos : Pos} (ho : Op2 G f (compareOp op)) (ho' : Op2 G g (compareOp op')) (hm : behindInMarks op' c = false) (ha : CE G Γ a ma) (hb : CE G Γ b mb) (hc : CE G Γ c mc) :
    CT G Γ (.Compare a [op, op'] [b, c] pos) (mB (mCh f g ma mb mc)) := by
  refine fun X ok W tk => PT.imp (pt_chain (ho X Γ ok) (ho' X Γ ok) (ha X ok W tk) (hb X ok W tk) (hc X ok W tk) hm) fun σ H Q h => ?_
  obtain ⟨B, F0, L, F, A, R, h⟩ := h
  refine chain (Q := fun x H' => ∃ k, x = .bl k ∧ Q k H') ⟨B, F0, L, F, A, R, (pG.bind h).imp R fun d F1 H1 s1 R1 g1 h1 v rv => ?_⟩
  cases e : asB d with
  | none => rw [e] at h1; exact h1.elim
  | some k => rw [e] at h1; exact ⟨k, rv.bl_inv e, h1 F1 H1 (Grow.refl R1.sf)⟩
end
end Eng

end
section
set_option Elab.async false
set_option linter.all false
set_option maxRecDepth 100000
set_option maxHeartbeats 4000000
/-! the engine, part 6: calls -/
namespace Eng
open PySem PySem.Spec PyProof.Rows L2
section
variable {G : Gd} {Γ : Gm}

/-! ### a def of the text -/
def glB (sc : Scope) (x : Str) : Bool := match sc.names.lookup x with | some .globalImplicit => true | _ => false
theorem gl_of {X : Cx} {sc : Scope} {x : Str} (hs : X.env.scope = sc) (h : glB sc x = true) : Gl X x := by
  unfold glB at h
  show X.env.scope.names.lookup x = some .globalImplicit
  rw [hs]
  split at h
  · assumption
  · cases h
def mCall (f : List D → R O) (m : Sl → R (List D)) : Sl → R O := fun L => (m L).bind f
theorem fnok {e : FE} {X : Cx} (ok : Γ.Ok G X) {f : Addr} {fd : FuncData} {ps : List Str} (F : FnOk G.P G.w G.K G.mg G.base (L2.CX G.P G.w) e.k f fd ps (spV G e.fn)) : FnOk X.prog X.w X.K X.mg X.base (L2.CX X.prog X.w) e.k f fd ps (spV G e.fn) := by
  rw [ok.prog, ok.w, ok.K, ok.mg, ok.base]; exact F
theorem RpA.same {K : PySem.W.Frag} {mg : Str → Option Value} {F F' : Hp} {vs : List V} {ds : List D} (r : RpA K mg F vs ds) (s : Same F F') : RpA K mg F' vs ds := RpA.mono s r
/-- behind the arguments: the callee's promise -/
theorem call_end {e : FE} {W : WX} {F1 H0 H1 : Hp} {σ : L2.St} {vs : List V} {ds : List D} {Q : VK} (sf : Same F1 H1) (s0 : Same H0 H1) (rv : RpA G.K G.mg F1 vs ds)
    (h : pG G W σ F1 H1 (e.fn ds) fun o F' H' => ∀ v C, Ow G.tg G.K G.mg F' H' v o C → C.Nodup → (∀ a ∈ C, F' a = none ∧ H0 a = none) → Q v H') : spV G e.fn vs H1 Q (WE W σ) := by
  refine ⟨F1, ds, sf, rv, ?_⟩
  cases hf : e.fn ds with
  | ok o =>
    rw [hf] at h
    rintro v H' ⟨F, C, s1, s2, s3, s4, ow, nC, fC⟩
    exact h F H' ⟨s3, s1, s2, s4⟩ v C ow nC fun a hc => ⟨(fC a hc).1, s0.free (fC a hc).2⟩
  | exc c =>
    rw [hf] at h
    obtain ⟨C, eC, h⟩ := h
    exact ⟨C, eC, fun H' s => h F1 H' ⟨s, .refl _, sf.trans s, fun a z _ => z⟩⟩
  | stuck => rw [hf] at h; exact h.elim
theorem co_call (gr : Γ.Gr G) {e : FE} {a : Expr} {es : List Expr} {m : Sl → R (List D)} {p pos : Pos} (hm : e ∈ Γ.T) (hk : Γ.cm = true ∧ e.k ≤ Γ.k) (hg : glB Γ.sc e.name = true) (hs : nst a = true) (hss : es.all nst = true) (hdb : (e.name == ("__debug__" : Str)) = false)
    (ha : CA G Γ (a :: es) m) : CO G Γ (.Call (.Name e.name p) (a :: es) [] pos) (mCall e.fn m) := by
  refine fun X ok W tk => ?_
  obtain ⟨f, fd, ps, har, hmg, hkp, hb, F⟩ := gr.fn e hm
  refine PE.imp (pe_callS (fnok ok F) ((ok.room hk.1).mono hk.2) (gl_of ok.sc hg) (by rw [ok.mg]; exact hmg) (by rw [ok.K]; exact hkp) (by rw [ok.K]; exact hb) (fun σ => passAt tk σ) (ha X ok W tk) hdb (star_cons hs) (star_any hss)) fun σ H Q h => ?_
  obtain ⟨B, F0, L, F, A, R, h⟩ := h
  exact ⟨B, F0, L, F, A, R, (pG.bind h).imp R fun ds F1 H1 s1 R1 g1 h1 vs rv => call_end R1.sf g1.sH rv h1⟩

/-! ### built-ins -/
def rVs (G : Gd) (f : List D → Option D) : List V → Hp → VK → Prop := fun vs H Q => ∃ F ds d, Same F H ∧ RpA G.K G.mg F vs ds ∧ f ds = some d ∧ ∀ v F' H', Grow F H F' H' → Rp G.K G.mg F' v d → Q v H'
def mF (f : List D → Option D) (m : Sl → R (List D)) : Sl → R D := fun L => (m L).bind fun ds => lift (f ds)
def Blt (G : Gd) (f : List D → Option D) (u : Value) : Prop := ∀ (X : Cx) (Γ : Gm), Γ.Ok G X → X.calm = true → CallR X u (rVs G f)
theorem args {f : List D → Option D} {m : Sl → R (List D)} {W : WX} {σ : L2.St} {H : Hp} {Q : VK} (h : tE G W (mF f m) σ H Q) : tCB (rVs G f) (tA G W m) σ H Q := by
  obtain ⟨B, F0, L, F, A, R, h⟩ := h
  refine ⟨B, F0, L, F, A, R, (pG.bind h).imp R fun ds F1 H1 s1 R1 g1 h1 vs rv => ?_⟩
  cases e : f ds with
  | none => rw [e] at h1; exact h1.elim
  | some d =>
    rw [e] at h1
    exact ⟨F1, ds, d, R1.sf, rv, e, fun v F' H' g r => h1 F' H' g v r⟩
theorem ce_blt (gr : Γ.Gr G) {f : List D → Option D} {x : Str} {id : String} {a : Expr} {es : List Expr} {m : Sl → R (List D)} {p pos : Pos} (hc : Blt G f (.builtin id)) (hx : x ∈ Γ.X) (hv : bootBuiltins x = some (.builtin id)) (hg : glB Γ.sc x = true) (hs : nst a = true) (hss : es.all nst = true)
    (hn : x ≠ "__name__") (hdb : (x == ("__debug__" : Str)) = false) (hcm : Γ.cm = true) (ha : CA G Γ (a :: es) m) : CE G Γ (.Call (.Name x p) (a :: es) [] pos) (mF f m) :=
  fun X ok W tk => PE.imp (pe_callB (hc X Γ ok (ok.calm hcm)) (gl_of ok.sc hg) (by rw [ok.mg]; exact gr.bl x hx) hv (ha X ok W tk) hn hdb (star_cons hs) (star_any hss)) fun _ _ _ h => args h
theorem ce_ty (gr : Γ.Gr G) {f : List D → Option D} {x : Str} {id : String} {a : Expr} {es : List Expr} {m : Sl → R (List D)} {p pos : Pos} (hc : Blt G f (.type id)) (hx : x ∈ Γ.X) (hv : bootBuiltins x = some (.type id)) (hg : glB Γ.sc x = true) (hs : nst a = true) (hss : es.all nst = true)
    (hn : x ≠ "__name__") (hdb : (x == ("__debug__" : Str)) = false) (hcm : Γ.cm = true) (ha : CA G Γ (a :: es) m) : CE G Γ (.Call (.Name x p) (a :: es) [] pos) (mF f m) :=
  fun X ok W tk => PE.imp (pe_callTy (hc X Γ ok (ok.calm hcm)) (gl_of ok.sc hg) (by rw [ok.mg]; exact gr.bl x hx) hv (ha X ok W tk) hn hdb (star_cons hs) (star_any hss)) fun _ _ _ h => args h

/-- len -/
def fLen : List D → Option D
  | [.lst ds] => some (.int ds.length)
  | [.tup ds] => some (.int ds.length)
  | [.str z] => if z.length ≤ sizeLine then some (.int z.length) else none
  | [.dk ds] => some (.int ds.length)
  | [.dt ds] => some (.int ds.length)
  | _ => none
theorem b_len : Blt G fLen (.builtin "len") := by
  intro X Γ ok cl pins s σ H xs us Q I r h
  obtain ⟨F, ds, d, sf, hr, e, h⟩ := h
  unfold fLen at e
  split at e
  · cases e
    cases hr with
    | cons r1 r2 => cases r2; cases r1 with
      | lst h1 r1 => exact call_len pins s σ H _ us Q I r ⟨_, _, rfl, .inl ⟨_, (by rw [ok.K]; exact Same.seq sf h1), r1.length.symm⟩, h _ F H (.refl sf) (.int _)⟩
  · cases e
    cases hr with
    | cons r1 r2 => cases r2; cases r1 with
      | tup h1 r1 => exact call_len pins s σ H _ us Q I r ⟨_, _, rfl, .inr ⟨_, by rw [ok.K]; exact sf.tq h1, r1.length.symm⟩, h _ F H (.refl sf) (.int _)⟩
  · split at e
    · cases e
      cases hr with
      | cons r1 r2 => cases r2; cases r1; exact call_len pins s σ H _ us Q I r ⟨_, _, rfl, ⟨by assumption, rfl⟩, h _ F H (.refl sf) (.int _)⟩
    · cases e
  · cases e
    cases hr with
    | cons r1 r2 => cases r2; cases r1 with
      | dk h1 r1 =>
        obtain ⟨u, rfl, ru⟩ := vals1 r
        cases ru
        refine d_len I (Same.rd sf h1) fun t s' I' => ⟨.int _, H, I', ⟨t, rfl⟩, ?_⟩
        rw [r1.length]
        exact h _ F H (.refl sf) (.int _)
  · cases e
    cases hr with
    | cons r1 r2 => cases r2; cases r1 with
      | dt h1 r1 =>
        obtain ⟨u, rfl, ru⟩ := vals1 r
        cases ru
        obtain ⟨z, hd, ys, rel, dd⟩ := dt_rd I.hok (Same.rd sf h1)
        have hl := Paired.length rel
        refine call_len_dictH hd dd (by rw [← hl]; rw [sizeLine_eq] at z; omega) ?_
        rw [← hl, r1.length]
        exact ⟨.int _, H, I.tok _, ⟨_, rfl⟩, h _ F H (.refl sf) (.int _)⟩
  · cases e

/-- the intsD of a list -/
def intsD : List D → Option (List Int)
  | [] => some []
  | .int i :: ds => (intsD ds).map (i :: ·)
  | _ => none
theorem RpA.intsD {K : PySem.W.Frag} {mg : Str → Option Value} {F : Hp} : ∀ {vs : List V} {ds : List D} {ns : List Int}, RpA K mg F vs ds → Eng.intsD ds = some ns → vs = ns.map V.int
  | _, _, _, .nil, e => by unfold Eng.intsD at e; cases e; rfl
  | _, _, _, .cons (d := d) r t, e => by
    cases d with
    | int i =>
      unfold Eng.intsD at e
      obtain ⟨ms, e1, rfl⟩ := map_some e
      cases r
      rw [RpA.intsD t e1]; rfl
    | _ => unfold Eng.intsD at e; cases e
def boolsD : List D → Option (List Bool)
  | [] => some []
  | .bl i :: ds => (boolsD ds).map (i :: ·)
  | _ => none
theorem RpA.boolsD {K : PySem.W.Frag} {mg : Str → Option Value} {F : Hp} : ∀ {vs : List V} {ds : List D} {ns : List Bool}, RpA K mg F vs ds → Eng.boolsD ds = some ns → vs = ns.map V.bl
  | _, _, _, .nil, e => by unfold Eng.boolsD at e; cases e; rfl
  | _, _, _, .cons (d := d) r t, e => by
    cases d with
    | bl i =>
      unfold Eng.boolsD at e
      obtain ⟨ms, e1, rfl⟩ := map_some e
      cases r
      rw [RpA.boolsD t e1]; rfl
    | _ => unfold Eng.boolsD at e; cases e
def strsD : List D → Option (List Str)
  | [] => some []
  | .str i :: ds => (strsD ds).map (i :: ·)
  | _ => none
theorem RpA.strsD {K : PySem.W.Frag} {mg : Str → Option Value} {F : Hp} : ∀ {vs : List V} {ds : List D} {ns : List Str}, RpA K mg F vs ds → Eng.strsD ds = some ns → vs = ns.map V.str
  | _, _, _, .nil, e => by unfold Eng.strsD at e; cases e; rfl
  | _, _, _, .cons (d := d) r t, e => by
    cases d with
    | str i =>
      unfold Eng.strsD at e
      obtain ⟨ms, e1, rfl⟩ := map_some e
      cases r
      rw [RpA.strsD t e1]; rfl
    | _ => unfold Eng.strsD at e; cases e
/-- sum, all, any, max, min of a list -/
def fSum : List D → Option D | [.lst ds] => (intsD ds).map fun ns => .int ns.sum | _ => none
theorem b_sum : Blt G fSum (.builtin "sum") := by
  intro X Γ ok cl pins s σ H xs us Q I r h
  obtain ⟨F, ds, d, sf, hr, e, h⟩ := h
  unfold fSum at e
  split at e
  · obtain ⟨ns, e1, rfl⟩ := map_some e
    cases hr with
    | cons r1 r2 => cases r2; cases r1 with
      | lst h1 r1 =>
        obtain rfl := r1.intsD e1
        exact cr_sum cl pins s σ H _ us Q I r ⟨_, ns, rfl, (by rw [ok.K]; exact Same.seq sf h1), h _ F H (.refl sf) (.int _)⟩
  · cases e
def fAll : List D → Option D | [.lst ds] => (boolsD ds).map fun ns => .bl (ns.all id) | _ => none
theorem b_all : Blt G fAll (.builtin "all") := by
  intro X Γ ok cl pins s σ H xs us Q I r h
  obtain ⟨F, ds, d, sf, hr, e, h⟩ := h
  unfold fAll at e
  split at e
  · obtain ⟨ns, e1, rfl⟩ := map_some e
    cases hr with
    | cons r1 r2 => cases r2; cases r1 with
      | lst h1 r1 =>
        obtain rfl := r1.boolsD e1
        exact cr_all cl pins s σ H _ us Q I r ⟨_, ns, rfl, (by rw [ok.K]; exact Same.seq sf h1), h _ F H (.refl sf) (.bl _)⟩
  · cases e
def fAny : List D → Option D | [.lst ds] => (boolsD ds).map fun ns => .bl (ns.any id) | _ => none
theorem b_any : Blt G fAny (.builtin "any") := by
  intro X Γ ok cl pins s σ H xs us Q I r h
  obtain ⟨F, ds, d, sf, hr, e, h⟩ := h
  unfold fAny at e
  split at e
  · obtain ⟨ns, e1, rfl⟩ := map_some e
    cases hr with
    | cons r1 r2 => cases r2; cases r1 with
      | lst h1 r1 =>
        obtain rfl := r1.boolsD e1
        exact cr_any cl pins s σ H _ us Q I r ⟨_, ns, rfl, (by rw [ok.K]; exact Same.seq sf h1), h _ F H (.refl sf) (.bl _)⟩
  · cases e
def maxI : List Int → Option Int | [] => none | n :: ns => some (ns.foldl max n)
def minI : List Int → Option Int | [] => none | n :: ns => some (ns.foldl min n)
theorem foldl_max : ∀ (ns : List Int) (n : Int), (ns.foldl max n = n ∨ ns.foldl max n ∈ ns) ∧ n ≤ ns.foldl max n ∧ ∀ y ∈ ns, y ≤ ns.foldl max n
  | [], n => ⟨.inl rfl, Int.le_refl _, fun _ m => nomatch m⟩
  | x :: xs, n => by
    obtain ⟨h1, h2, h3⟩ := foldl_max xs (max n x)
    refine ⟨?_, by rw [List.foldl_cons]; omega, fun y hy => ?_⟩
    · rw [List.foldl_cons]
      rcases h1 with h1 | h1
      · rw [h1]
        rcases Int.le_total n x with z | z
        · exact .inr (by rw [Int.max_eq_right z]; exact List.mem_cons_self)
        · exact .inl (Int.max_eq_left z)
      · exact .inr (List.mem_cons_of_mem _ h1)
    · rw [List.foldl_cons]
      rcases List.mem_cons.mp hy with rfl | hy
      · omega
      · exact h3 y hy
theorem foldl_min : ∀ (ns : List Int) (n : Int), (ns.foldl min n = n ∨ ns.foldl min n ∈ ns) ∧ ns.foldl min n ≤ n ∧ ∀ y ∈ ns, ns.foldl min n ≤ y
  | [], n => ⟨.inl rfl, Int.le_refl _, fun _ m => nomatch m⟩
  | x :: xs, n => by
    obtain ⟨h1, h2, h3⟩ := foldl_min xs (min n x)
    refine ⟨?_, by rw [List.foldl_cons]; omega, fun y hy => ?_⟩
    · rw [List.foldl_cons]
      rcases h1 with h1 | h1
      · rw [h1]
        rcases Int.le_total n x with z | z
        · exact .inl (Int.min_eq_left z)
        · exact .inr (by rw [Int.min_eq_right z]; exact List.mem_cons_self)
      · exact .inr (List.mem_cons_of_mem _ h1)
    · rw [List.foldl_cons]
      rcases List.mem_cons.mp hy with rfl | hy
      · omega
      · exact h3 y hy
def fMax : List D → Option D
  | [.lst ds] => (intsD ds).bind fun ns => (maxI ns).map .int
  | [.int i, .int j] => some (.int (max i j))
  | _ => none
def fMin : List D → Option D
  | [.lst ds] => (intsD ds).bind fun ns => (minI ns).map .int
  | [.int i, .int j] => some (.int (min i j))
  | _ => none
theorem b_max : Blt G fMax (.builtin "max") := by
  intro X Γ ok cl pins s σ H xs us Q I r h
  obtain ⟨F, ds, d, sf, hr, e, h⟩ := h
  unfold fMax at e
  split at e
  · obtain ⟨ns, e1, e2⟩ := bind_some e
    obtain ⟨m, e3, rfl⟩ := map_some e2
    cases hr with
    | cons r1 r2 => cases r2; cases r1 with
      | lst h1 r1 =>
        obtain rfl := r1.intsD e1
        cases ns with
        | nil => cases e3
        | cons n ns =>
          cases e3
          obtain ⟨k1, k2, k3⟩ := foldl_max ns n
          refine cr_max cl pins s σ H _ us Q I r ⟨_, n :: ns, rfl, (by rw [ok.K]; exact Same.seq sf h1), by simp, fun m hm hle => ?_⟩
          have : m = ns.foldl max n := by
            apply Int.le_antisymm
            · rcases List.mem_cons.mp hm with rfl | hm
              · exact k2
              · exact k3 m hm
            · rcases k1 with k1 | k1
              · rw [k1]; exact hle n List.mem_cons_self
              · exact hle _ (List.mem_cons_of_mem _ k1)
          rw [this]
          exact h _ F H (.refl sf) (.int _)
  · cases e
    cases hr with
    | cons r1 r2 => cases r2 with
      | cons r2 r3 =>
        cases r3; cases r1; cases r2
        rename_i i j
        refine call_max2 cl pins s σ H _ us Q I r ⟨i, j, rfl, ?_⟩
        have : (if j > i then j else i) = max i j := by split <;> omega
        rw [this]
        exact h _ F H (.refl sf) (.int _)
  · cases e
theorem b_min : Blt G fMin (.builtin "min") := by
  intro X Γ ok cl pins s σ H xs us Q I r h
  obtain ⟨F, ds, d, sf, hr, e, h⟩ := h
  unfold fMin at e
  split at e
  · obtain ⟨ns, e1, e2⟩ := bind_some e
    obtain ⟨m, e3, rfl⟩ := map_some e2
    cases hr with
    | cons r1 r2 => cases r2; cases r1 with
      | lst h1 r1 =>
        obtain rfl := r1.intsD e1
        cases ns with
        | nil => cases e3
        | cons n ns =>
          cases e3
          obtain ⟨k1, k2, k3⟩ := foldl_min ns n
          refine cr_min cl pins s σ H _ us Q I r ⟨_, n :: ns, rfl, (by rw [ok.K]; exact Same.seq sf h1), by simp, fun m hm hle => ?_⟩
          have : m = ns.foldl min n := by
            apply Int.le_antisymm
            · rcases k1 with k1 | k1
              · rw [k1]; exact hle n List.mem_cons_self
              · exact hle _ (List.mem_cons_of_mem _ k1)
            · rcases List.mem_cons.mp hm with rfl | hm
              · exact k2
              · exact k3 m hm
          rw [this]
          exact h _ F H (.refl sf) (.int _)
  · cases e
    cases hr with
    | cons r1 r2 => cases r2 with
      | cons r2 r3 =>
        cases r3; cases r1; cases r2
        rename_i i j
        refine call_min2 cl pins s σ H _ us Q I r ⟨i, j, rfl, ?_⟩
        have : (if j < i then j else i) = min i j := by split <;> omega
        rw [this]
        exact h _ F H (.refl sf) (.int _)
  · cases e
def fDivmod : List D → Option D
  | [.int i, .int j] => if 0 < j ∧ j < 18446744073709551616 then some (.tup [.int (i / j), .int (i % j)]) else none
  | _ => none
theorem b_divmod : Blt G fDivmod (.builtin "divmod") := by
  intro X Γ ok cl pins s σ H xs us Q I r h
  obtain ⟨F, ds, d, sf, hr, e, h⟩ := h
  unfold fDivmod at e
  split at e
  · split at e
    · rename_i i j hm
      cases e
      cases hr with
      | cons r1 r2 => cases r2 with
        | cons r2 r3 =>
          cases r3; cases r1; cases r2
          refine call_divmodW pins s σ H _ us Q I r ⟨i, j, rfl, ?_, fun p hp => ?_⟩
          · exact ⟨hm.1, PyProof.noPylong_of_log2 (wide_div (i := i) (b := 64) hm.1 (by have := hm.1; have := hm.2; omega) (by decide) (by decide)).2⟩
          · have g := Grow.new sf (.tup [.int (i / j), .int (i % j)]) hp
            exact h _ _ _ g (.tup upd_same (.cons (.int _) (.cons (.int _) .nil)))
    · cases e
  · cases e
/-- int(x), str(x) -/
def fInt : List D → Option D
  | [.int i] => some (.int i)
  | [.bl b] => some (.int (if b then 1 else 0))
  | _ => none
theorem b_int : Blt G fInt (.type "int") := by
  intro X Γ ok cl pins s σ H xs us Q I r h
  obtain ⟨F, ds, d, sf, hr, e, h⟩ := h
  unfold fInt at e
  split at e
  · cases e
    cases hr with
    | cons r1 r2 => cases r2; cases r1; exact call_int1 pins s σ H _ us Q I r (.inl ⟨_, rfl, h _ F H (.refl sf) (.int _)⟩)
  · cases e
    cases hr with
    | cons r1 r2 => cases r2; cases r1; exact call_int1 pins s σ H _ us Q I r (.inr ⟨_, rfl, h _ F H (.refl sf) (.int _)⟩)
  · cases e
/-- tuple(x), list(x) -/
def fTuple : List D → Option D
  | [.lst ds] => some (.tup ds)
  | [.tup ds] => some (.tup ds)
  | _ => none
theorem b_tuple : Blt G fTuple (.type "tuple") := by
  intro X Γ ok cl pins s σ H xs us Q I r h
  obtain ⟨F, ds, d, sf, hr, e, h⟩ := h
  unfold fTuple at e
  split at e
  · cases e
    cases hr with
    | cons r1 r2 => cases r2; cases r1 with
      | @lst _ us1 _ h1 r1 =>
        refine call_tuple_of pins s σ H _ us Q I r ⟨_, _, rfl, .inl ⟨(by rw [ok.K]; exact Same.seq sf h1), fun p hp => ?_⟩⟩
        have g := Grow.new sf (.tup us1) hp
        exact h _ _ _ g (.tup upd_same (RpA.mono g.sF r1))
  · cases e
    cases hr with
    | cons r1 r2 => cases r2; cases r1 with
      | tup h1 r1 => exact call_tuple_of pins s σ H _ us Q I r ⟨_, _, rfl, .inr ⟨by rw [ok.K]; exact sf.tq h1, h _ F H (.refl sf) (.tup h1 r1)⟩⟩
  · cases e
/-- isinstance(x, T): T a built-in type, written -/
def fIsi (t : String) (d : D) : Option D := match d.py with
  | some p => if t = "int" then some (.bl p.isInt) else if t = "bool" then some (.bl p.isBool) else if t = "str" then some (.bl p.isStr) else if t = "tuple" then some (.bl p.isTuple) else if t = "list" then some (.bl p.isList) else none
  | none => none
theorem ep_tok {X : Cx} {pins : List (Addr × Obj)} {σ : L2.St} {H F : Hp} {s : Shared} {Q : VK} {b : Bool} {t : Nat} (I : Inv X pins σ H s) (sf : Same F H) (h : ∀ v F' H', Grow F H F' H' → Rp G.K G.mg F' v (.bl b) → Q v H') : EP X pins σ Q (.bool b) { s with toks := t } :=
  ⟨.bl b, H, I.tok t, rfl, h _ F H (.refl sf) (.bl b)⟩
theorem isi_call {X : Cx} (ok : Γ.Ok G X) {t : String} {pins : List (Addr × Obj)} {s : Shared} {σ : L2.St} {F H : Hp} {x : V} {v : Value} {dx d : D} {Q : VK} (I : Inv X pins σ H s) (rx : RelV x v) (sf : Same F H) (hx : Rp G.K G.mg F x dx) (e : fIsi t dx = some d)
    (h : ∀ v F' H', Grow F H F' H' → Rp G.K G.mg F' v d → Q v H') : wpAny (model X.prog X.w) X.A (call (.builtin "isinstance") [v, .type t]) (EP X pins σ Q) X.xe s := by
  unfold fIsi at e
  split at e
  · rename_i p hp
    obtain ⟨as, r⟩ := Rp.rd ok I sf hx hp rx
    split at e
    · rename_i ht; subst ht; cases e; exact W.isinstance_int_data r fun tk _ => ep_tok I sf h
    · split at e
      · rename_i ht; subst ht; cases e; exact W.isinstance_bool_data r fun tk _ => ep_tok I sf h
      · split at e
        · rename_i ht; subst ht; cases e; exact W.isinstance_str_data r fun tk _ => ep_tok I sf h
        · split at e
          · rename_i ht; subst ht; cases e; exact W.isinstance_tuple_data r fun tk _ => ep_tok I sf h
          · split at e
            · rename_i ht; subst ht; cases e; exact W.isinstance_list_data r fun tk _ => ep_tok I sf h
            · cases e
  · cases e
theorem ce_isi (gr : Γ.Gr G) {x : Str} {t : String} {a : Expr} {m : Sl → R D} {p p2 pos : Pos} (hx : ("isinstance" : Str) ∈ Γ.X) (hxt : x ∈ Γ.X) (hg : glB Γ.sc "isinstance" = true) (hgt : glB Γ.sc x = true) (hv : bootBuiltins x = some (.type t)) (hn : x ≠ "__name__") (hdb : (x == ("__debug__" : Str)) = false)
    (hs : nst a = true) (ha : CE G Γ a m) : CE G Γ (.Call (.Name "isinstance" p) [a, .Name x p2] [] pos) (m1 (fIsi t) m) := by
  refine fun X ok W tk => ⟨fun pins s σ H Q I h => ?_⟩
  obtain ⟨B, F0, L, F, A, R, h⟩ := h
  refine wpAny_Call_Name_kw (ld_blt I (gl_of ok.sc hg) (by rw [ok.mg]; exact gr.bl _ hx) boot_isinstance ?_ (by decide) (by decide))
  have pt : PE X (.Name x p2) (tC (.ty t)) := pe_bltn (gl_of ok.sc hgt) (by rw [ok.mg]; exact gr.bl _ hxt) hv rfl hn hdb
  have pa : PA X [a, .Name x p2] (tCons (tE G W m) (tCons (tC (.ty t)) tNil)) := pa_cons (ha X ok W tk) (pa_cons pt pa_nil rfl) (star_cons hs)
  refine PyProof.Rows.callWith_builtin1 (thn (pa.run pos pins s σ H (fun vs H1 => ∃ x, vs = [x, .ty t] ∧ ∃ F1 dx d, Same F1 H1 ∧ Rp G.K G.mg F1 x dx ∧ fIsi t dx = some d ∧ ∀ v F' H', Grow F1 H1 F' H' → Rp G.K G.mg F' v d → Q v H') I ?_) fun us s1 hh => ?_) (star_cons hs) rfl
  · refine ⟨B, F0, L, F, A, R, (pG.bind h).imp R fun dx F1 H1 s1 R1 g1 h1 v rv => ⟨v, rfl, F1, dx, ?_⟩⟩
    cases e : fIsi t dx with
    | none => rw [e] at h1; exact h1.elim
    | some d => rw [e] at h1; exact ⟨d, R1.sf, rv, rfl, fun v F' H' g r => h1 F' H' g v r⟩
  · obtain ⟨vs, H1, I1, rvs, x', rfl, F1, dx, d, sf, hx', e, q⟩ := hh
    cases rvs with
    | cons r1 r2 => cases r2 with
      | cons r2 r3 =>
        cases r3
        cases r2
        exact isi_call ok I1 r1 sf hx' e q

/-! ### module constants -/
theorem ce_glob (gr : Γ.Gr G) {x : Str} {d : D} {pos : Pos} (hm : (x, d) ∈ Γ.C) (hg : glB Γ.sc x = true) (hdb : (x == ("__debug__" : Str)) = false) : CE G Γ (.Name x pos) (mC d) := by
  obtain ⟨u, v, e1, e2, e3⟩ := gr.cs _ hm
  refine fun X ok W tk => PE.imp (pe_glob (gl_of ok.sc hg) (by rw [ok.mg]; exact e1) e2 hdb) fun σ H Q h => ?_
  obtain ⟨B, F0, L, F, A, R, h⟩ := h
  exact h F H (Grow.refl R.sf) v (e3 F)
end
end Eng

end
section
set_option Elab.async false
set_option linter.all false
set_option maxRecDepth 100000
set_option maxHeartbeats 4000000
/-! the engine, part 7: what is walked, targets, comprehensions -/
namespace Eng
open PySem PySem.Spec PyProof.Rows L2
section
variable {G : Gd} {Γ : Gm}

/-! ### what a loop walks -/
structure ItD (G : Gd) (J : It) (ds : List D) (F : Hp) : Prop where
  go : ∀ (i : Nat) (F' H' : Hp), Same F F' → Same F' H' → i < ds.length → J.go i H'
  st : ∀ (i : Nat) (F' H' : Hp), Same F F' → Same F' H' → ds.length ≤ i → J.stop i H'
  yl : ∀ (i : Nat) (F' H' : Hp) (x : V) (H'' : Hp), Same F F' → Same F' H' → i < ds.length → J.yld i H' x H'' → ∃ d F'', ds[i]? = some d ∧ Grow F' H' F'' H'' ∧ Rp G.K G.mg F'' x d
def tI (G : Gd) (W : WX) (m : Sl → R (List D)) : TI := fun σ H Rr => ∃ B F0 L F A, Rl G B F0 L F A σ H ∧ pG G W σ F H (m L) fun ds F' H' => ∀ J, ItD G J ds F' → Rr J H'
def CI (G : Gd) (Γ : Gm) (tg e : Expr) (m : Sl → R (List D)) : Prop := ∀ X, Γ.Ok G X → ∀ W, Takes X W → PI X tg e (tI G W m)
theorem piImp {X : Cx} {tg e : Expr} {t t' : TI} (h : PI X tg e t) (i : ∀ σ H Q, t' σ H Q → t σ H Q) : PI X tg e t' := ⟨fun pins s σ H Q I q => h.run pins s σ H Q I (i σ H Q q)⟩
theorem piOr {X : Cx} {tg e : Expr} {t t' : TI} (h : PI X tg e t) (h' : PI X tg e t') : PI X tg e (fun σ H Q => t σ H Q ∨ t' σ H Q) := ⟨fun pins s σ H Q I q => q.elim (h.run pins s σ H Q I) (h'.run pins s σ H Q I)⟩
theorem get_none {α : Type} {l : List α} {i : Nat} {x : α} (h : l[i]? = some x) : i < l.length := (List.getElem?_eq_some_iff.mp h).1
theorem itD_list {X : Cx} (ok : Γ.Ok G X) {F : Hp} {a : Addr} {us : List V} {ds : List D} (h : SqL G.K F a us) (r : RpA G.K G.mg F us ds) : ItD G (Itl X.K a) ds F where
  go := fun i F' H' s s' hi => by
    obtain ⟨v, e, _⟩ := r.get (List.getElem?_eq_getElem hi)
    exact ⟨us, v, (by rw [ok.K]; exact Same.seq (s.trans s') h), e⟩
  st := fun i F' H' s s' hi => ⟨us, (by rw [ok.K]; exact Same.seq (s.trans s') h), by rw [r.length]; exact hi⟩
  yl := fun i F' H' x H'' s s' hi y => by
    obtain ⟨rfl, y⟩ := y
    have e := y us ((by rw [ok.K]; exact Same.seq (s.trans s') h))
    obtain ⟨v, e2, rv⟩ := r.get (List.getElem?_eq_getElem hi)
    rw [e] at e2; cases e2
    exact ⟨_, F', List.getElem?_eq_getElem hi, .refl s', rv.mono s⟩
theorem itD_tup {X : Cx} (ok : Γ.Ok G X) {F : Hp} {a : Addr} {us : List V} {ds : List D} (h : SqT G.K F a us) (r : RpA G.K G.mg F us ds) : ItD G (Itt X.K a) ds F where
  go := fun i F' H' s s' hi => by
    obtain ⟨v, e, _⟩ := r.get (List.getElem?_eq_getElem hi)
    exact ⟨us, v, by rw [ok.K]; exact (s.trans s').seqT h, e⟩
  st := fun i F' H' s s' hi => ⟨us, by rw [ok.K]; exact (s.trans s').seqT h, by rw [r.length]; exact hi⟩
  yl := fun i F' H' x H'' s s' hi y => by
    obtain ⟨rfl, y⟩ := y
    have e := y us (by rw [ok.K]; exact (s.trans s').seqT h)
    obtain ⟨v, e2, rv⟩ := r.get (List.getElem?_eq_getElem hi)
    rw [e] at e2; cases e2
    exact ⟨_, F', List.getElem?_eq_getElem hi, .refl s', rv.mono s⟩
def signs (z : Str) : List D := z.cps.toList.map fun c => .str ⟨#[c]⟩
theorem itD_str {F : Hp} {z : Str} : ItD G (Its z) (signs z) F where
  go := fun i F' H' s s' hi => by show i < z.cps.size; simpa [signs] using hi
  st := fun i F' H' s s' hi => by show z.cps.size ≤ i; simpa [signs] using hi
  yl := fun i F' H' x H'' s s' hi y => by
    obtain ⟨rfl, c, e, rfl⟩ := y
    refine ⟨.str ⟨#[c]⟩, F', ?_, .refl s', .str _⟩
    unfold signs
    rw [List.getElem?_map]
    have : z.cps.toList[i]? = some c := by simpa using e
    rw [this]; rfl
def itemsD : D → Option (List D)
  | .lst ds => some ds
  | .tup ds => some ds
  | .str z => some (signs z)
  | _ => none
def mIt (m : Sl → R D) : Sl → R (List D) := fun L => (m L).bind fun d => lift (itemsD d)
theorem ci_val {tg e : Expr} {m : Sl → R D} (he : CE G Γ e m) : CI G Γ tg e (mIt m) := by
  refine fun X ok W tk => piImp (piOr (piOr (pi_list (he X ok W tk)) (pi_tup (he X ok W tk))) (pi_str (he X ok W tk))) fun σ H Q h => ?_
  obtain ⟨B, F0, L, F, A, R, h⟩ := h
  have h := pG.bind h
  cases em : m L with
  | stuck => rw [em] at h; exact h.elim
  | exc c => refine .inl (.inl ⟨B, F0, L, F, A, R, ?_⟩); rw [em] at h ⊢; exact h
  | ok d =>
    rw [em] at h
    cases ed : itemsD d with
    | none => exact (show False by
        have : pG G W σ F H (lift (itemsD d)) (fun ds F' H' => ∀ J, ItD G J ds F' → Q J H') := h F H (.refl R.sf)
        rw [ed] at this; exact this).elim
    | some ds =>
      have key : ∀ F' H', Grow F H F' H' → ∀ J, ItD G J ds F' → Q J H' := fun F' H' g => by
        have : pG G W σ F' H' (lift (itemsD d)) (fun ds F' H' => ∀ J, ItD G J ds F' → Q J H') := h F' H' g
        rw [ed] at this
        exact this F' H' (.refl g.le)
      cases d with
      | lst xs =>
        cases ed
        refine .inl (.inl ⟨B, F0, L, F, A, R, ?_⟩)
        rw [em]
        intro F' H' g v rv
        cases rv with
        | lst h1 r1 => exact ⟨_, rfl, ⟨_, (by rw [ok.K]; exact Same.seq g.le h1)⟩, key F' H' g _ (itD_list ok h1 r1)⟩
      | tup xs =>
        cases ed
        refine .inl (.inr ⟨B, F0, L, F, A, R, ?_⟩)
        rw [em]
        intro F' H' g v rv
        cases rv with
        | tup h1 r1 => exact ⟨_, rfl, ⟨_, by rw [ok.K]; exact g.le.tq h1⟩, key F' H' g _ (itD_tup ok (.inl (.inl h1)) r1)⟩
      | str z =>
        cases ed
        refine .inr ⟨B, F0, L, F, A, R, ?_⟩
        rw [em]
        intro F' H' g v rv
        cases rv
        exact ⟨_, rfl, key F' H' g _ itD_str⟩
      | _ => cases ed
/-- range -/
def rng (lo : Int) (n : Nat) : List D := (List.range n).map fun (i : Nat) => .int (lo + (i : Int))
theorem itD_rng {F : Hp} {lo : Int} {n : Nat} : ItD G (Itr lo n) (rng lo n) F where
  go := fun i F' H' s s' hi => by show i < n; simpa [rng] using hi
  st := fun i F' H' s s' hi => by show n ≤ i; simpa [rng] using hi
  yl := fun i F' H' x H'' s s' hi y => by
    obtain ⟨rfl, rfl⟩ := y
    refine ⟨.int (lo + i), F', ?_, .refl s', .int _⟩
    have hi' : i < n := by simpa [rng] using hi
    unfold rng
    rw [List.getElem?_map, List.getElem?_range hi']; rfl
/-- numbers that a range may have -/
def fitR (i : Int) : Prop := -4611686018427387904 ≤ i ∧ i < 4611686018427387904
instance (i : Int) : Decidable (fitR i) := by unfold fitR; infer_instance
def rng1 : D → Option (List D) | .int j => if fitR j then some (rng 0 j.toNat) else none | _ => none
def rng2 : D → D → Option (List D) | .int i, .int j => if fitR i ∧ fitR j then some (rng i (j - i).toNat) else none | _, _ => none
def mRg1 (m : Sl → R D) : Sl → R (List D) := fun L => (m L).bind fun d => lift (rng1 d)
def mRg2 (a b : Sl → R D) : Sl → R (List D) := fun L => (a L).bind fun x => (b L).bind fun y => lift (rng2 x y)
theorem star1 {a : Expr} {env : Env} (h : nst a = true) : starEach [a] env = [(false, eval a env)] := by rw [star_cons h]; rfl
theorem star2 {a b : Expr} {env : Env} (h : nst a = true) (h' : nst b = true) : starEach [a, b] env = [(false, eval a env), (false, eval b env)] := by rw [star_cons h, star1 h']
theorem ci_rng1 (gr : Γ.Gr G) {tg a : Expr} {m : Sl → R D} {p pos : Pos} (hx : ("range" : Str) ∈ Γ.X) (hg : glB Γ.sc "range" = true) (hs : nst a = true) (ha : CE G Γ a m) : CI G Γ tg (.Call (.Name "range" p) [a] [] pos) (mRg1 m) := by
  refine fun X ok W tk => piImp (pi_range1 (gl_of ok.sc hg) (by rw [ok.mg]; exact gr.bl _ hx) (pa_cons (ha X ok W tk) pa_nil (star_cons hs)) (star1 hs)) fun σ H Q h => ?_
  obtain ⟨B, F0, L, F, A, R, h⟩ := h
  refine ⟨B, F0, L, F, A, R, (pG.bind h).imp R fun d F1 H1 s1 R1 g1 h1 v rv => ?_⟩
  cases ed : rng1 d with
  | none => rw [ed] at h1; exact h1.elim
  | some es =>
    rw [ed] at h1
    unfold rng1 at ed
    split at ed
    · split at ed
      · rename_i hj
        cases ed; cases rv
        unfold fitR at hj
        exact ⟨_, rfl, by omega, by omega, h1 F1 H1 (Grow.refl R1.sf) _ itD_rng⟩
      · cases ed
    · cases ed
theorem ci_rng2 (gr : Γ.Gr G) {tg a b : Expr} {ma mb : Sl → R D} {p pos : Pos} (hx : ("range" : Str) ∈ Γ.X) (hg : glB Γ.sc "range" = true) (hs : nst a = true) (hs' : nst b = true) (ha : CE G Γ a ma) (hb : CE G Γ b mb) : CI G Γ tg (.Call (.Name "range" p) [a, b] [] pos) (mRg2 ma mb) := by
  refine fun X ok W tk => piImp (pi_range2 (gl_of ok.sc hg) (by rw [ok.mg]; exact gr.bl _ hx) (pa_cons (ha X ok W tk) (pa_cons (hb X ok W tk) pa_nil (star_cons hs')) (star_cons hs)) (star2 hs hs') (star1 hs')) fun σ H Q h => ?_
  obtain ⟨B, F0, L, F, A, R, h⟩ := h
  refine ⟨B, F0, L, F, A, R, (pG.bind h).imp R fun d F1 H1 s1 R1 g1 h1 v rv => ?_⟩
  refine ⟨B, F0, L, F1, A, R1, (pG.bind h1).imp R1 fun d2 F2 H2 s2 R2 g2 h2 v2 rv2 => ?_⟩
  cases ed : rng2 d d2 with
  | none => rw [ed] at h2; exact h2.elim
  | some es =>
    rw [ed] at h2
    unfold rng2 at ed
    split at ed
    · split at ed
      · rename_i hj
        cases ed; cases rv; cases rv2
        unfold fitR at hj
        exact ⟨_, _, rfl, ⟨by omega, by omega, by omega, by omega⟩, h2 F2 H2 (Grow.refl R2.sf) _ itD_rng⟩
      · cases ed
    · cases ed
/-- enumerate of a list -/
def enumD (ds : List D) : List D := ds.zipIdx.map fun p => .tup [.int (p.2 : Int), p.1]
theorem itD_enum {X : Cx} (ok : Γ.Ok G X) {F : Hp} {a : Addr} {us : List V} {ds : List D} (h : SqL G.K F a us) (r : RpA G.K G.mg F us ds) : ItD G (Ite X.K a) (enumD ds) F where
  go := fun i F' H' s s' hi => by
    have hi : i < ds.length := by simpa [enumD] using hi
    obtain ⟨v, e, _⟩ := r.get (List.getElem?_eq_getElem hi)
    exact ⟨us, v, (by rw [ok.K]; exact Same.seq (s.trans s') h), e⟩
  st := fun i F' H' s s' hi => ⟨us, (by rw [ok.K]; exact Same.seq (s.trans s') h), by rw [r.length]; simpa [enumD] using hi⟩
  yl := fun i F' H' x H'' s s' hi y => by
    have hi : i < ds.length := by simpa [enumD] using hi
    obtain ⟨T, y0, rfl, hT, rfl, y⟩ := y
    have e := y us ((by rw [ok.K]; exact Same.seq (s.trans s') h))
    obtain ⟨v, e2, rv⟩ := r.get (List.getElem?_eq_getElem hi)
    rw [e] at e2; cases e2
    have g := Grow.new s' (.tup [.int (i : Nat), y0]) hT
    refine ⟨.tup [.int (i : Int), ds[i]], _, ?_, g, .tup upd_same (.cons (.int _) (.cons (rv.mono (s.trans g.sF)) .nil))⟩
    unfold enumD
    rw [List.getElem?_map, List.getElem?_zipIdx, List.getElem?_eq_getElem hi]
    simp
def lstD : D → Option (List D) | .lst ds => some ds | _ => none
def mEn (m : Sl → R D) : Sl → R (List D) := fun L => (m L).bind fun d => lift ((lstD d).map enumD)
theorem Rp.lst_inv {K : PySem.W.Frag} {mg : Str → Option Value} {F : Hp} {v : V} {d : D} {ds : List D} (r : Rp K mg F v d) (e : lstD d = some ds) : ∃ a us, v = .ref a ∧ SqL K F a us ∧ RpA K mg F us ds := by
  cases r <;> first | (cases e; done) | skip
  cases e
  exact ⟨_, _, rfl, by assumption, by assumption⟩
theorem ci_enum (gr : Γ.Gr G) {elts : List Expr} {kk : Nat} {tpos : Pos} {a : Expr} {m : Sl → R D} {p pos : Pos} (hx : ("enumerate" : Str) ∈ Γ.X) (hg : glB Γ.sc "enumerate" = true) (hs : nst a = true) (ha : CE G Γ a m) : CI G Γ (.Tuple elts kk tpos) (.Call (.Name "enumerate" p) [a] [] pos) (mEn m) := by
  refine fun X ok W tk => piImp (pi_enum (gl_of ok.sc hg) (by rw [ok.mg]; exact gr.bl _ hx) (pa_cons (ha X ok W tk) pa_nil (star_cons hs)) (star1 hs)) fun σ H Q h => ?_
  obtain ⟨B, F0, L, F, A, R, h⟩ := h
  refine ⟨B, F0, L, F, A, R, (pG.bind h).imp R fun d F1 H1 s1 R1 g1 h1 v rv => ?_⟩
  cases ed : lstD d with
  | none => rw [ed] at h1; exact h1.elim
  | some es =>
    rw [ed] at h1
    obtain ⟨b, us, rfl, hb, r⟩ := rv.lst_inv ed
    exact ⟨b, us, rfl, (by rw [ok.K]; exact Same.seq R1.sf hb), h1 F1 H1 (Grow.refl R1.sf) _ (itD_enum ok hb r)⟩
/-- zip of two lists -/
def zipD (xs ys : List D) : List D := (xs.zip ys).map fun p => .tup [p.1, p.2]
theorem itD_zip {X : Cx} (ok : Γ.Ok G X) {F : Hp} {a b : Addr} {us ws : List V} {ds es : List D} (h : SqL G.K F a us) (r : RpA G.K G.mg F us ds) (h' : SqL G.K F b ws) (r' : RpA G.K G.mg F ws es) : ItD G (Itz X.K a b) (zipD ds es) F where
  go := fun i F' H' s s' hi => by
    have hi : i < ds.length ∧ i < es.length := by simp [zipD] at hi; omega
    obtain ⟨v, e, _⟩ := r.get (List.getElem?_eq_getElem hi.1)
    obtain ⟨v', e', _⟩ := r'.get (List.getElem?_eq_getElem hi.2)
    exact ⟨us, ws, v, v', (by rw [ok.K]; exact Same.seq (s.trans s') h), (by rw [ok.K]; exact Same.seq (s.trans s') h'), e, e'⟩
  st := fun i F' H' s s' hi => ⟨us, ws, (by rw [ok.K]; exact Same.seq (s.trans s') h), (by rw [ok.K]; exact Same.seq (s.trans s') h'), by
    rw [r.length, r'.length]
    simp only [zipD, List.length_map, List.length_zip] at hi
    omega⟩
  yl := fun i F' H' x H'' s s' hi y => by
    have hi : i < ds.length ∧ i < es.length := by simp [zipD] at hi; omega
    obtain ⟨T, y0, y1, rfl, hT, rfl, y, y'⟩ := y
    have e := y us ((by rw [ok.K]; exact Same.seq (s.trans s') h))
    have e' := y' ws ((by rw [ok.K]; exact Same.seq (s.trans s') h'))
    obtain ⟨v, e2, rv⟩ := r.get (List.getElem?_eq_getElem hi.1)
    rw [e] at e2; cases e2
    obtain ⟨v', e3, rv'⟩ := r'.get (List.getElem?_eq_getElem hi.2)
    rw [e'] at e3; cases e3
    have g := Grow.new s' (.tup [y0, y1]) hT
    refine ⟨.tup [ds[i], es[i]], _, ?_, g, .tup upd_same (.cons (rv.mono (s.trans g.sF)) (.cons (rv'.mono (s.trans g.sF)) .nil))⟩
    unfold zipD
    rw [List.getElem?_map, (List.getElem?_zip_eq_some (z := (ds[i], es[i]))).mpr ⟨List.getElem?_eq_getElem hi.1, List.getElem?_eq_getElem hi.2⟩]
    rfl
def mZip (a b : Sl → R D) : Sl → R (List D) := fun L => (a L).bind fun x => (b L).bind fun y => lift ((lstD x).bind fun xs => (lstD y).map fun ys => zipD xs ys)
theorem ci_zip (gr : Γ.Gr G) {elts : List Expr} {kk : Nat} {tpos : Pos} {a b : Expr} {ma mb : Sl → R D} {p pos : Pos} (hx : ("zip" : Str) ∈ Γ.X) (hg : glB Γ.sc "zip" = true) (hs : nst a = true) (hs' : nst b = true) (ha : CE G Γ a ma) (hb : CE G Γ b mb) : CI G Γ (.Tuple elts kk tpos) (.Call (.Name "zip" p) [a, b] [] pos) (mZip ma mb) := by
  refine fun X ok W tk => piImp (pi_zip (gl_of ok.sc hg) (by rw [ok.mg]; exact gr.bl _ hx) (pa_cons (ha X ok W tk) (pa_cons (hb X ok W tk) pa_nil (star_cons hs')) (star_cons hs)) (by rw [star_cons hs]) (star_any (es := [b]) (by simp [hs']))) fun σ H Q h => ?_
  obtain ⟨B, F0, L, F, A, R, h⟩ := h
  refine ⟨B, F0, L, F, A, R, (pG.bind h).imp R fun d F1 H1 s1 R1 g1 h1 v rv => ?_⟩
  refine ⟨B, F0, L, F1, A, R1, (pG.bind h1).imp R1 fun d2 F2 H2 s2 R2 g2 h2 v2 rv2 => ?_⟩
  cases ed : lstD d with
  | none => rw [ed] at h2; exact h2.elim
  | some es =>
    cases ed2 : lstD d2 with
    | none => rw [ed, ed2] at h2; exact h2.elim
    | some es2 =>
      rw [ed, ed2] at h2
      obtain ⟨b1, us, rfl, hb1, r1⟩ := (rv.mono s2).lst_inv ed
      obtain ⟨b2, ws, rfl, hb2, r2⟩ := rv2.lst_inv ed2
      exact ⟨b1, b2, us, ws, rfl, (by rw [ok.K]; exact Same.seq R2.sf hb1), (by rw [ok.K]; exact Same.seq R2.sf hb2), h2 F2 H2 (Grow.refl R2.sf) _ (itD_zip ok hb1 r1 hb2 r2)⟩

/-! ### targets -/
/-- the slots vs stand as they stood -/
def Out (vs : List Nat) (σ σ' : L2.St) : Prop := σ'.length = σ.length ∧ ∀ j, j ∉ vs → σ'[j]? = σ[j]?
def gD (G : Gd) (vs : List Nat) (m : D → Sl → Option Sl) : TG := fun v σ H Q => ∃ B F0 L F A d, Rl G B F0 L F A σ H ∧ Rp G.K G.mg F v d ∧ ∃ L', m d L = some L' ∧ ∀ σ' A', Out vs σ σ' → (∀ a ∈ A', a ∈ A) → Rl G B F0 L' F A' σ' H → Q σ' H
def gDs (G : Gd) (vs : List Nat) (m : List D → Sl → Option Sl) : TGs := fun us σ H Q => ∃ B F0 L F A ds, Rl G B F0 L F A σ H ∧ RpA G.K G.mg F us ds ∧ ∃ L', m ds L = some L' ∧ ∀ σ' A', Out vs σ σ' → (∀ a ∈ A', a ∈ A) → Rl G B F0 L' F A' σ' H → Q σ' H
def CG (G : Gd) (Γ : Gm) (e : Expr) (vs : List Nat) (m : D → Sl → Option Sl) : Prop := ∀ X, Γ.Ok G X → PG X e (gD G vs m)
def CGs (G : Gd) (Γ : Gm) (e : List Expr) (vs : List Nat) (m : List D → Sl → Option Sl) : Prop := ∀ X, Γ.Ok G X → PGs X e (gDs G vs m)
theorem pgImp {X : Cx} {e : Expr} {t t' : TG} (h : PG X e t) (i : ∀ v σ H Q, t' v σ H Q → t v σ H Q) : PG X e t' := ⟨fun pins s σ H v u Q I r q => h.run pins s σ H v u Q I r (i v σ H Q q)⟩
theorem pgsImp {X : Cx} {e : List Expr} {t t' : TGs} (h : PGs X e t) (i : ∀ v σ H Q, t' v σ H Q → t v σ H Q) : PGs X e t' := ⟨fun pins s σ H v u Q I r q => h.run pins s σ H v u Q I r (i v σ H Q q)⟩
theorem pgOr {X : Cx} {e : Expr} {t t' : TG} (h : PG X e t) (h' : PG X e t') : PG X e (fun v σ H Q => t v σ H Q ∨ t' v σ H Q) := ⟨fun pins s σ H v u Q I r q => q.elim (h.run pins s σ H v u Q I r) (h'.run pins s σ H v u Q I r)⟩
def put (i : Nat) (d : D) (L : Sl) : Option Sl := if okSet L i = true then some (L.set i (some (.v d))) else none
def locB (sc : Scope) (x : Str) : Bool := match sc.names.lookup x with | some .local => true | some .cell => true | _ => false
theorem loc_of {sc : Scope} {x : Str} (h : locB sc x = true) : L2.Loc sc x := by
  unfold locB at h
  unfold L2.Loc
  split at h <;> simp_all
theorem cg_name {i : Nat} {x : Str} {pos : Pos} (hN : Γ.N[i]? = some x) (hx : locB Γ.sc x = true) (hf : Γ.st x = true) : CG G Γ (.Name x pos) [i] (put i) := by
  refine fun X ok => pgImp (pg_name (i := i) (by rw [ok.N]; exact ok.nd) (by rw [ok.N]; exact hN) (by rw [ok.sc]; exact loc_of hx) (ok.fnl x hf)) fun v σ H Q h => ?_
  obtain ⟨B, F0, L, F, A, d, R, rv, L', e, h⟩ := h
  unfold put at e
  split at e
  · rename_i hi
    cases e
    obtain ⟨A', h2, R'⟩ := R.set' (okSet_of hi).1 (okSet_of hi).2 rv
    exact h _ A' ⟨by simp, fun j hj => by rw [List.getElem?_set_ne (fun z => hj (by simp [z]))]⟩ h2 R'
  · cases e
def putNil (ds : List D) (L : Sl) : Option Sl := match ds with | [] => some L | _ => none
def putCons (m : D → Sl → Option Sl) (r : List D → Sl → Option Sl) (ds : List D) (L : Sl) : Option Sl := match ds with | [] => none | d :: ds => (m d L).bind (r ds)
theorem cgs_nil : CGs G Γ [] [] putNil := fun X ok => pgsImp pgs_nil fun v σ H Q h => by
  obtain ⟨B, F0, L, F, A, d, R, rv, L', e, h⟩ := h
  cases rv with
  | nil => cases e; exact ⟨rfl, h σ A ⟨rfl, fun _ _ => rfl⟩ (fun _ m => m) R⟩
  | cons => cases e
def plainTg : Expr → Bool | .Name _ _ => true | .Tuple _ _ _ => true | .Subscript _ _ _ => true | .Attribute _ _ _ => true | _ => false
theorem each_cons {e : Expr} {es : List Expr} {env : Env} (h : plainTg e = true) : (assignEach (e :: es) env).map (·.2) = assign e env :: (assignEach es env).map (·.2) := by
  cases e <;> first | rfl | (cases h; done)
theorem cgs_cons {e : Expr} {es : List Expr} {vs ws : List Nat} {m : D → Sl → Option Sl} {r : List D → Sl → Option Sl} (hp : plainTg e = true) (h1 : CG G Γ e vs m) (h2 : CGs G Γ es ws r) : CGs G Γ (e :: es) (vs ++ ws) (putCons m r) := by
  refine fun X ok => pgsImp (pgs_cons (h1 X ok) (h2 X ok) (each_cons hp)) fun v σ H Q h => ?_
  obtain ⟨B, F0, L, F, A, d, R, rv, L', e, h⟩ := h
  cases rv with
  | nil => cases e
  | cons r1 r2 =>
    unfold putCons at e
    obtain ⟨L1, e1, e2⟩ := bind_some e
    refine ⟨_, _, rfl, B, F0, L, F, A, _, R, r1, L1, e1, fun σ' A' o1 s1 R1 => ?_⟩
    refine ⟨B, F0, L1, F, A', _, R1, r2, L', e2, fun σ2 A2 o2 s2 R2 => ?_⟩
    exact h σ2 A2 ⟨o2.1.trans o1.1, fun j hj => (o2.2 j fun z => hj (List.mem_append_right _ z)).trans (o1.2 j fun z => hj (List.mem_append_left _ z))⟩ (fun a m => s1 a (s2 a m)) R2
def putTup (n : Nat) (r : List D → Sl → Option Sl) (d : D) (L : Sl) : Option Sl := match d with
  | .tup ds => if ds.length = n then r ds L else none
  | .lst ds => if ds.length = n then r ds L else none
  | _ => none
theorem each_len {env : Env} : ∀ {es : List Expr}, (es.all plainTg) = true → (assignEach es env).length = es.length ∧ (assignEach es env).findIdx? (·.1) = none
  | [], _ => ⟨rfl, rfl⟩
  | e :: es, h => by
    rw [List.all_cons, Bool.and_eq_true] at h
    obtain ⟨i1, i2⟩ := each_len (env := env) h.2
    have q : assignEach (e :: es) env = (false, assign e env) :: assignEach es env := by
      cases e <;> first | rfl | (cases h.1; done)
    rw [q]
    refine ⟨by rw [List.length_cons, List.length_cons, i1], ?_⟩
    rw [List.findIdx?_cons]
    simp [i2]
theorem cg_tup {es : List Expr} {k : Nat} {pos : Pos} {vs : List Nat} {r : List D → Sl → Option Sl} (hpc : (es.all plainTg && Γ.cm) = true) (h : CGs G Γ es vs r) : CG G Γ (.Tuple es k pos) vs (putTup es.length r) := by
  have hp := (by rw [Bool.and_eq_true] at hpc; exact hpc.1 : es.all plainTg = true)
  have hcm := (by rw [Bool.and_eq_true] at hpc; exact hpc.2 : Γ.cm = true)
  refine fun X ok => pgImp (pgOr (pg_tup (ok.calm hcm) (h X ok) (each_len hp).1 (each_len hp).2) (pg_lst (ok.calm hcm) (h X ok) (each_len hp).1 (each_len hp).2)) fun v σ H Q h => ?_
  obtain ⟨B, F0, L, F, A, d, R, rv, L', e, h⟩ := h
  unfold putTup at e
  split at e
  · split at e
    · rename_i hl
      cases rv with
      | tup h1 r1 => exact .inl ⟨_, _, rfl, by rw [ok.K]; exact R.sf.tq h1, by rw [r1.length]; exact hl, B, F0, L, F, A, _, R, r1, L', e, h⟩
    · cases e
  · split at e
    · rename_i hl
      cases rv with
      | lst h1 r1 => exact .inr ⟨_, _, rfl, (by rw [ok.K]; exact Same.seq R.sf h1), by rw [r1.length]; exact hl, B, F0, L, F, A, _, R, r1, L', e, h⟩
    · cases e
  · cases e
end

/-! ### comprehensions -/
def wipeL (L : Sl) : List Nat → Sl
  | [] => L
  | v :: vs => (wipeL L vs).set v none
/-- slots that may be forgotten -/
def okW (L : Sl) (vs : List Nat) : Bool := vs.all fun v => !isPin L v
theorem pin_wipe {L : Sl} {j : Nat} : ∀ {vs : List Nat}, isPin (wipeL L vs) j = true → isPin L j = true
  | [], h => h
  | v :: vs, h => by
    unfold wipeL at h
    apply pin_wipe (vs := vs)
    unfold isPin at h ⊢
    by_cases e : v = j
    · subst e
      by_cases hl : v < (wipeL L vs).length
      · rw [List.getElem?_set_self hl] at h; cases h
      · rw [List.getElem?_eq_none (by rw [List.length_set]; omega)] at h; cases h
    · rw [List.getElem?_set_ne e] at h; exact h
section
variable {G : Gd} {Γ : Gm} {B : Bd} {F0 F H : Hp} {L : Sl} {A : List Addr} {σ : L2.St}
theorem Rl.wipe (R : Rl G B F0 L F A σ H) : ∀ vs : List Nat, okW L vs = true → ∃ A', (∀ a ∈ A', a ∈ A) ∧ Rl G B F0 (wipeL L vs) F A' (L2.wipe σ vs) H
  | [], _ => ⟨A, fun _ m => m, R⟩
  | v :: vs, h => by
    unfold okW at h
    rw [List.all_cons, Bool.and_eq_true] at h
    obtain ⟨A1, h1, R1⟩ := R.wipe vs h.2
    have hv : isPin L v = false := by simpa using h.1
    obtain ⟨A2, h2, R2⟩ := R1.drop v none (by
      cases e : isPin (wipeL L vs) v with
      | false => rfl
      | true => rw [pin_wipe e] at hv; cases hv)
    exact ⟨A2, fun a m => h1 a (h2 a m), R2⟩
theorem wipe_at {σ : L2.St} : ∀ {vs : List Nat} {j : Nat}, (L2.wipe σ vs)[j]? = if j ∈ vs ∧ j < σ.length then some none else σ[j]?
  | [], j => by simp [L2.wipe]
  | v :: vs, j => by
    unfold L2.wipe
    by_cases h : j = v
    · subst h
      by_cases hl : j < σ.length
      · rw [List.getElem?_set_self (by rw [wipe_length]; exact hl), if_pos ⟨List.mem_cons_self, hl⟩]
      · rw [if_neg (fun z => hl z.2), List.getElem?_eq_none (by rw [List.length_set, wipe_length]; omega), List.getElem?_eq_none (by omega)]
    · rw [List.getElem?_set_ne (Ne.symm h), wipe_at]
      have : (j ∈ v :: vs) ↔ j ∈ vs := by simp [h]
      simp only [this]
theorem wipe_out {vs ws : List Nat} {σ σ' : L2.St} (h : Out vs σ σ') (s : ∀ i ∈ vs, i ∈ ws) : L2.wipe σ' ws = L2.wipe σ ws := by
  apply List.ext_getElem?
  intro j
  rw [wipe_at, wipe_at, h.1]
  by_cases hj : j ∈ ws ∧ j < σ.length
  · rw [if_pos hj, if_pos hj]
  · rw [if_neg hj, if_neg hj]
    by_cases hv : j ∈ vs
    · have : ¬ j < σ.length := fun z => hj ⟨s j hv, z⟩
      rw [List.getElem?_eq_none (by rw [h.1]; omega), List.getElem?_eq_none (by omega)]
    · exact h.2 j hv
theorem wipe_wipe {ws : List Nat} {σ : L2.St} : L2.wipe (L2.wipe σ ws) ws = L2.wipe σ ws := by
  apply List.ext_getElem?
  intro j
  rw [wipe_at, wipe_at, wipe_length]
  split
  · rfl
  · rfl
def Gm.blk (Γ : Gm) (scope : Scope) : Gm := { Γ with tp := false, sc := relS scope Γ.sc, st := fun x => (match scope.names.lookup x with | some .cell => true | _ => false) || (match (relS scope Γ.sc).names.lookup x with | some .local => true | _ => false) }
theorem Gm.Ok.blk {X : Cx} (ok : Γ.Ok G X) {scope : Scope} (hk : scope.kind = .function) (s : Shared) (H : Hp) (C : Addr) (cl : List (Str × Addr)) (fp : List Addr) : (Γ.blk scope).Ok G (X.blk s H scope (compEnvC scope cl C X.env) fp) where
  prog := ok.prog
  w := ok.w
  K := ok.K
  mg := ok.mg
  base := ok.base
  N := ok.N
  nd := ok.nd
  sc := by
    show relS scope X.env.scope = relS scope Γ.sc
    rw [ok.sc]
  kind := hk
  calm := ok.calm
  room := ok.room
  un := ok.un
  pass := PassesOwn.never
  stk := fun h => nomatch h
  fnl := fun x h => by
    have h' : ((match scope.names.lookup x with | some .cell => true | _ => false) || (match (relS scope Γ.sc).names.lookup x with | some .local => true | _ => false)) = true := h
    rw [Bool.or_eq_true] at h'
    rcases h' with h' | h'
    · left
      show (scope.names.lookup x == some .cell) = true
      split at h'
      · rename_i e; rw [e]; rfl
      · cases h'
    · right
      show (relS scope X.env.scope).names.lookup x = some .local
      rw [ok.sc]
      split at h'
      · assumption
      · cases h'
theorem Gm.Gr.blk (gr : Γ.Gr G) (scope : Scope) : (Γ.blk scope).Gr G := ⟨gr.fn, gr.bl, gr.cs, gr.ex, gr.is, gr.mkx, gr.mt, gr.ec, gr.isc⟩
def CTs (G : Gd) (Γ : Gm) (e : List Expr) (m : Sl → R Bool) : Prop := ∀ X, Γ.Ok G X → ∀ W, Takes X W → PTs X e (tT G W m)
def mYes : Sl → R Bool := fun _ => .ok true
theorem cts_nil : CTs G Γ [] mYes := fun X ok W tk => ⟨fun pins s σ H Q I h => pts_nil.run pins s σ H Q I (by
  obtain ⟨B, F0, L, F, A, R, h⟩ := h
  exact h F H (Grow.refl R.sf))⟩
theorem cts_one {c : Expr} {m : Sl → R Bool} (h : CT G Γ c m) : CTs G Γ [c] m := fun X ok W tk => pts_one (h X ok W tk)
def lcGo (tg : D → Sl → Option Sl) (tst : Sl → R Bool) (el : Sl → R D) (L : Sl) : List D → R (List D)
  | [] => .ok []
  | x :: xs => (lift (tg x L)).bind fun L' => (tst L').bind fun b => if b = true then (el L').bind fun d => (lcGo tg tst el L xs).bind fun ds => .ok (d :: ds) else lcGo tg tst el L xs
def mLc (it : Sl → R (List D)) (vs : List Nat) (tg : D → Sl → Option Sl) (tst : Sl → R Bool) (el : Sl → R D) : Sl → R O := fun L => (it L).bind fun ds =>
  if ds.length ≤ sizeLine ∧ okW L vs = true then (match lcGo tg tst el (wipeL L vs) ds with | .ok es => .ok (.ml (es.map .v)) | _ => .stuck) else .stuck
theorem rbind_ok {α β : Type} {r : R α} {k : α → R β} {b : β} (h : r.bind k = .ok b) : ∃ a, r = .ok a ∧ k a = .ok b := by
  cases r with
  | ok a => exact ⟨a, rfl, h⟩
  | exc c => cases h
  | stuck => cases h
theorem lift_ok {α : Type} {o : Option α} {a : α} (h : lift o = .ok a) : o = some a := by
  cases o with
  | none => cases h
  | some b => cases h; rfl
abbrev W0 : WX := fun _ _ _ _ => False
/-- the reading of a comprehension -/
theorem lc_read {W : WX} {Q : VK} {it : Sl → R (List D)} {vs ws : List Nat} {tg : D → Sl → Option Sl} {tst : Sl → R Bool} {el : Sl → R D} (hsub : ∀ i ∈ ws, i ∈ vs) (h : tO G W (mLc it vs tg tst el) σ H Q) :
    tLc (tI G W it) (gD G ws tg) (tT G W0 tst) (tE G W0 el) vs σ H Q := by
  obtain ⟨B, F0, L, F, A, R, h⟩ := h
  refine ⟨B, F0, L, F, A, R, (pG.bind h).imp R fun ds F1 H1 s1 R1 g1 h1 J iJ Dd hD => ?_⟩
  split at h1
  · rename_i hsz
    cases hgo : lcGo tg tst el (wipeL L vs) ds with
    | exc c => rw [hgo] at h1; exact h1.elim
    | stuck => rw [hgo] at h1; exact h1.elim
    | ok es =>
      rw [hgo] at h1
      refine ⟨fun i m Hc => m = ds.length - i ∧ i ≤ ds.length ∧ ∃ Fi acc done rest, Grow F1 H1 Fi Hc ∧ Fi Dd = none ∧ Hc Dd = some (.lst acc) ∧ RpA G.K G.mg Fi acc done ∧ done.length ≤ i ∧ lcGo tg tst el (wipeL L vs) (ds.drop i) = .ok rest ∧ done ++ rest = es, ⟨ds.length, rfl, Nat.zero_le _, F1, [], [], es, ⟨?_, .refl _, ?_, fun _ e _ => e⟩, R1.sf.free hD, upd_same, .nil, Nat.le_refl _, hgo, rfl⟩, fun i m Hc hW => ?_⟩
      · exact fun a u e => by rw [upd_ne (ne_of_none e hD)]; exact e
      · exact fun a u e => by rw [upd_ne (ne_of_none (R1.sf _ _ e) hD)]; exact R1.sf _ _ e
      · obtain ⟨rfl, hi, Fi, acc, done, rest, g, fD, eD, rac, hdl, hgo2, hes⟩ := hW
        by_cases hlt : i < ds.length
        · refine .inr ⟨iJ.go i Fi Hc g.sF g.le hlt, fun H' => (fun i m Hc => m = ds.length - i ∧ i ≤ ds.length ∧ ∃ Fi acc done rest, Grow F1 H1 Fi Hc ∧ Fi Dd = none ∧ Hc Dd = some (.lst acc) ∧ RpA G.K G.mg Fi acc done ∧ done.length ≤ i ∧ lcGo tg tst el (wipeL L vs) (ds.drop i) = .ok rest ∧ done ++ rest = es) (i + 1) (ds.length - (i + 1)) H', fun H' hn => ⟨_, by omega, hn⟩, fun x H' hy => ?_⟩
          obtain ⟨d, F2, ed, g2, rx⟩ := iJ.yl i Fi Hc x H' g.sF g.le hlt hy
          have gt := g.trans g2
          have f2D : F2 Dd = none := g2.hf Dd fD (nt_of eD fun _ z => nomatch z)
          have e2D : H' Dd = some (.lst acc) := g2.sH _ _ eD
          obtain ⟨A', hA', Rw⟩ := (R1.gr gt).wipe vs hsz.2
          rw [List.drop_eq_getElem_cons hlt] at hgo2
          have ed' : ds[i] = d := by rw [List.getElem?_eq_getElem hlt] at ed; exact Option.some.inj ed
          rw [ed'] at hgo2
          unfold lcGo at hgo2
          obtain ⟨L', e1, hgo3⟩ := rbind_ok hgo2
          obtain ⟨b, e2, hgo4⟩ := rbind_ok hgo3
          refine ⟨B, F0, _, F2, A', d, Rw, rx, L', lift_ok e1, fun σ' A2 out s2 R2 => ⟨?_, ?_⟩⟩
          · rw [wipe_out out hsub, wipe_wipe]
          · refine ⟨B, F0, L', F2, A2, R2, ?_⟩
            rw [e2]
            intro F3 H3 g3
            have R3 := R2.gr g3
            have f3D : F3 Dd = none := g3.hf Dd f2D (nt_of e2D fun _ z => nomatch z)
            have e3D : H3 Dd = some (.lst acc) := g3.sH _ _ e2D
            cases b with
            | true =>
              rw [if_pos rfl] at hgo4
              obtain ⟨y, e4, hgo5⟩ := rbind_ok hgo4
              obtain ⟨rest', e5, e6⟩ := rbind_ok hgo5
              cases e6
              refine iteT ⟨B, F0, L', F3, A2, R3, ?_⟩
              rw [e4]
              intro F4 H4 g4 v rv
              have f4D : F4 Dd = none := g4.hf Dd f3D (nt_of e3D fun _ z => nomatch z)
              have e4D : H4 Dd = some (.lst acc) := g4.sH _ _ e3D
              refine ⟨acc, e4D, ?_, rfl, hlt, F4, acc ++ [v], done ++ [y], rest', ⟨?_, (gt.sF.trans g3.sF).trans g4.sF, ?_, ?_⟩, f4D, upd_same, (RpA.mono (g2.sF.trans (g3.sF.trans g4.sF)) rac).append (.cons rv .nil), by rw [List.length_append]; show done.length + 1 ≤ i + 1; omega, e5, by rw [← hes]; simp⟩
              · rw [rac.length]; omega
              · exact fun a u e => by rw [upd_ne (ne_of_none e hD)]; exact g4.sH _ _ (g3.sH _ _ (gt.sH _ _ e))
              · exact fun a u e => by rw [upd_ne (ne_of_none e f4D)]; exact g4.le _ _ e
              · exact fun a z n => ((gt.trans g3).trans g4).hf a z n
            | false =>
              rw [if_neg Bool.false_ne_true] at hgo4
              exact iteF ⟨rfl, hlt, F3, acc, done, rest, gt.trans g3, f3D, e3D, RpA.mono (g2.sF.trans g3.sF) rac, by omega, hgo4, hes⟩
        · have hn : ds.length ≤ i := by omega
          refine .inl ⟨iJ.st i Fi Hc g.sF g.le hn, ?_⟩
          rw [List.drop_eq_nil_of_le hn] at hgo2
          cases hgo2
          rw [List.append_nil] at hes
          subst hes
          exact h1 Fi Hc g (.ref Dd) [Dd] (.ml eD rac.ow) (by simp) fun a m => by rw [List.mem_singleton.mp m]; exact ⟨fD, g1.sH.free hD⟩
  · exact h1.elim
def noSet : Expr → Bool | .Set _ _ _ => false | _ => true
theorem noSet_of {e : Expr} (h : noSet e = true) (env : Env) (x : Value) : foldedSetIterable e env x = pure x := by
  cases e <;> first | rfl | (cases h; done)
theorem co_lc {elt tg iter : Expr} {ifs : List Expr} {scope : Scope} {own : List (Str × Nat)} {ws : List Nat} {pos : Pos} {it : Sl → R (List D)} {gm : D → Sl → Option Sl} {tst : Sl → R Bool} {el : Sl → R D}
    (hi : CI G Γ tg iter it) (hb : blkC Γ.N Γ.sc scope own = true) (hsub : ∀ i ∈ ws, i ∈ own.map (·.2)) (hg : CG G (Γ.blk scope) tg ws gm) (ht : CTs G (Γ.blk scope) ifs tst) (he : CE G (Γ.blk scope) elt el) (hs : (noSet iter && Γ.cm) = true) :
    CO G Γ (.ListComp elt [⟨tg, iter, ifs, 0⟩] scope pos) (mLc it (own.map (·.2)) gm tst el) :=
  fun X ok W tk => PE.imp (pe_lc (ok.calm (by rw [Bool.and_eq_true] at hs; exact hs.2)) (by rw [ok.N]; exact ok.nd) (hi X ok W tk) (by rw [ok.N, ok.sc]; exact blkOk_by hb) (fun s H C cl fp => hg _ (ok.blk (blkOk_by hb).kind s H C cl fp)) (fun s H C cl fp => ht _ (ok.blk (blkOk_by hb).kind s H C cl fp) W0 takes0)
    (fun s H C cl fp => he _ (ok.blk (blkOk_by hb).kind s H C cl fp) W0 takes0) (noSet_of (by rw [Bool.and_eq_true] at hs; exact hs.1) _)) fun σ H Q h => lc_read hsub h
end
end Eng

end
section
set_option Elab.async false
set_option linter.all false
set_option maxRecDepth 100000
set_option maxHeartbeats 4000000
/-! the engine, part 8: statements -/
namespace Eng
open PySem PySem.Spec PyProof.Rows L2
section
variable {G : Gd} {Γ : Gm} {W : WX} {B : Bd} {F0 F H : Hp} {L : Sl} {A : List Addr} {σ : L2.St} {D' : Ends}
theorem Rel.mono {F F' : Hp} (s : Same F F') (h : Rel G B F0 F' L σ H) : Rel G B F0 F L σ H := by
  obtain ⟨F2, A2, s2, R2⟩ := h
  exact ⟨F2, A2, s.trans s2, R2⟩
theorem pS.mono {F F' : Hp} {r : RS} (s : Same F F') (h : pS G W B F0 F r D') : pS G W B F0 F' r D' := by
  cases r with
  | next L => exact fun σ' H' q => h σ' H' (q.mono s)
  | brk L => exact fun σ' H' q => h σ' H' (q.mono s)
  | cont L => exact fun σ' H' q => h σ' H' (q.mono s)
  | ret o L => exact fun v H' ⟨F2, A2, C, σ', s2, q⟩ => h v H' ⟨F2, A2, C, σ', s.trans s2, q⟩
  | exc c L => obtain ⟨C, e, h⟩ := h; exact ⟨C, e, fun σ' H' q => h σ' H' (q.mono s)⟩
  | stuck => exact h
def sBind {α : Type} (m : Sl → R α) (k : α → Sl → RS) : Sl → RS := fun L => match m L with | .ok a => k a L | .exc c => .exc c L | .stuck => .stuck
/-- a statement that begins with an expression -/
theorem pS.first {α : Type} {m : Sl → R α} {k : α → Sl → RS} (Rr : Rl G B F0 L F A σ H) (h : pS G W B F0 F (sBind m k L) D') : pG G W σ F H (m L) fun a F' _ => pS G W B F0 F' (k a L) D' := by
  unfold sBind at h
  cases e : m L with
  | ok a => rw [e] at h; exact fun F' H' g => pS.mono g.sF h
  | exc c => rw [e] at h; obtain ⟨C, e, h⟩ := h; exact ⟨C, e, fun F' H' g => h σ H' ⟨F', A, g.sF, Rr.gr g⟩⟩
  | stuck => rw [e] at h; exact h
/-! ### blocks -/
def sNext : Sl → RS := .next
def sSeq (a b : Sl → RS) : Sl → RS := fun L => match a L with | .next L' => b L' | r => r
theorem css_nil : CSs G Γ [] sNext := fun X ok W tk => PSs.imp pss_nil fun D σ H h => by
  obtain ⟨B, F0, L, F, A, R, h⟩ := h
  exact h σ H ⟨F, A, .refl _, R⟩
theorem css_cons {s : Stmt} {r : List Stmt} {a b : Sl → RS} (h1 : CS G Γ s a) (h2 : CSs G Γ r b) : CSs G Γ (s :: r) (sSeq a b) := by
  refine fun X ok W tk => PSs.imp (pss_cons (h1 X ok W tk) (h2 X ok W tk)) fun D σ H h => ?_
  obtain ⟨B, F0, L, F, A, R, h⟩ := h
  refine ⟨B, F0, L, F, A, R, ?_⟩
  unfold sSeq at h
  cases e : a L with
  | next L' =>
    rw [e] at h
    rintro σ' H' ⟨F', A', s', R'⟩
    exact ⟨B, F0, L', F', A', R', pS.mono s' h⟩
  | _ => rw [e] at h; exact h
theorem css_one {s : Stmt} {a : Sl → RS} (h1 : CS G Γ s a) : CSs G Γ [s] a := fun X ok W tk => pss_one (h1 X ok W tk)
theorem cs_pass {pos} : CS G Γ (.Pass pos) sNext := fun X ok W tk => PS.imp ps_pass fun D σ H h => by
  obtain ⟨B, F0, L, F, A, R, h⟩ := h
  exact h σ H ⟨F, A, .refl _, R⟩
theorem cs_break {pos} : CS G Γ (.Break pos) .brk := fun X ok W tk => PS.imp ps_break fun D σ H h => by
  obtain ⟨B, F0, L, F, A, R, h⟩ := h
  exact h σ H ⟨F, A, .refl _, R⟩
theorem cs_continue {pos} : CS G Γ (.Continue pos) .cont := fun X ok W tk => PS.imp ps_continue fun D σ H h => by
  obtain ⟨B, F0, L, F, A, R, h⟩ := h
  exact h σ H ⟨F, A, .refl _, R⟩
def sIf (c : Sl → R Bool) (a b : Sl → RS) : Sl → RS := sBind c fun x L => if x = true then a L else b L
theorem cs_if {c : Expr} {x y : List Stmt} {mc : Sl → R Bool} {a b : Sl → RS} {pos} (hc : CT G Γ c mc) (ha : CSs G Γ x a) (hb : CSs G Γ y b) : CS G Γ (.If c x y pos) (sIf mc a b) := by
  refine fun X ok W tk => PS.imp (ps_if (hc X ok W tk) (ha X ok W tk) (hb X ok W tk)) fun D σ H h => ?_
  obtain ⟨B, F0, L, F, A, R, h⟩ := h
  refine ⟨B, F0, L, F, A, R, (pS.first R h).imp R fun k F1 H1 s1 R1 g1 h1 => ?_⟩
  cases k with
  | true => exact iteT ⟨B, F0, L, F1, A, R1, h1⟩
  | false => exact iteF ⟨B, F0, L, F1, A, R1, h1⟩
/-! ### return -/
theorem ret_v {v : V} {d : D} (R : Rl G B F0 L F A σ H) (r : Rp G.K G.mg F v d) : RetS G B F0 F (.v d) L v H :=
  ⟨F, A, [], σ, .refl _, R, .v r, List.nodup_nil, fun _ m => nomatch m⟩
def sRet (m : Sl → R D) : Sl → RS := sBind m fun d L => .ret (.v d) L
theorem cs_ret {e : Expr} {m : Sl → R D} {pos} (he : CE G Γ e m) : CS G Γ (.Return (some e) pos) (sRet m) := by
  refine fun X ok W tk => PS.imp (ps_ret (he X ok W tk)) fun D σ H h => ?_
  obtain ⟨B, F0, L, F, A, R, h⟩ := h
  exact ⟨B, F0, L, F, A, R, (pS.first R h).imp R fun k F1 H1 s1 R1 g1 h1 v rv => h1 v H1 (ret_v R1 rv)⟩
def sRetN : Sl → RS := fun L => .ret (.v .non) L
theorem cs_retN {pos} : CS G Γ (.Return none pos) sRetN := fun X ok W tk => PS.imp ps_retN fun D σ H h => by
  obtain ⟨B, F0, L, F, A, R, h⟩ := h
  exact h _ H (ret_v R .non)
def sRetO (m : Sl → R O) : Sl → RS := sBind m fun o L => .ret o L
theorem cs_retO {e : Expr} {m : Sl → R O} {pos} (he : CO G Γ e m) : CS G Γ (.Return (some e) pos) (sRetO m) := by
  refine fun X ok W tk => PS.imp (ps_ret (he X ok W tk)) fun D σ H h => ?_
  obtain ⟨B, F0, L, F, A, R, h⟩ := h
  exact ⟨B, F0, L, F, A, R, (pS.first R h).imp R fun k F1 H1 s1 R1 g1 h1 v C ow nC fC => h1 v H1 ⟨F1, A, C, σ, .refl _, R1, ow, nC, fun a m => ⟨(fC a m).1, R.sb.free (fC a m).2, fun m' => by obtain ⟨u, e⟩ := R.os.tracked a m'; rw [(fC a m).2] at e; cases e⟩⟩⟩
/-- a slot's own thing handed back -/
def sRetX (i : Nat) : Sl → RS := fun L => match L[i]? with | some (some o) => if okSet L i = true then .ret o (L.set i none) else .stuck | _ => .stuck
theorem cs_retX {i : Nat} {x : Str} {p pos : Pos} (hN : Γ.N[i]? = some x) (hv : visB Γ.sc x = true) (hd : (x == ("__debug__" : Str)) = false) (hcd : (x == ("__classdict__" : Str)) = false) : CS G Γ (.Return (some (.Name x p)) pos) (sRetX i) := by
  refine fun X ok W tk => PS.imp (ps_ret (pe_var (i := i) (by rw [ok.N]; exact hN) (by rw [ok.sc]; exact vis_of hv) hd hcd)) fun D σ H h => ?_
  obtain ⟨B, F0, L, F, A, R, h⟩ := h
  unfold sRetX at h
  split at h
  · rename_i o e
    split at h
    · rename_i hok
      obtain ⟨v, A1, Ai, A2, h1, h2, h3, q0⟩ := R.os.take e
      refine ⟨v, h1, ?_⟩
      have nd := R.nd
      rw [h3] at nd
      have n1 := List.nodup_append.mp nd
      have n2 := List.nodup_append.mp n1.1
      have sub : ∀ a ∈ A1 ++ A2, a ∈ A := fun a m => by rw [h3]; simp at m ⊢; rcases m with m | m <;> simp [m]
      refine h v H ⟨F, A1 ++ A2, Ai, σ, .refl _, ⟨q0, ?_, R.sf, R.f0, R.sb, R.fb, fun a m => R.fa a (sub a m), ?_⟩, h2, n2.2.1, fun a m => ⟨(R.fa a (by rw [h3]; simp [m])).1, (R.fa a (by rw [h3]; simp [m])).2, fun m' => ?_⟩⟩
      · exact List.nodup_append.mpr ⟨n2.1, n1.2.1, fun a ha b hb => n1.2.2 a (List.mem_append_left _ ha) b hb⟩
      · have := pn_set (x := none) (y := some v) (okSet_of hok).2 R.pn
        have e2 : σ.set i (some v) = σ := by
          obtain ⟨hi, e⟩ := List.getElem?_eq_some_iff.mp h1
          rw [← e]; exact List.set_getElem_self hi
        rw [e2] at this; exact this
      · rcases List.mem_append.mp m' with m' | m'
        · exact n2.2.2 a m' a m rfl
        · exact n1.2.2 a (List.mem_append_right _ m) a m' rfl
    · exact h.elim
  · exact h.elim
/-! ### an expression's value dropped -/
def sDrop (m : Sl → R D) : Sl → RS := sBind m fun _ L => .next L
def noComp : Expr → Bool | .ListComp _ _ _ _ => false | .SetComp _ _ _ _ => false | .DictComp _ _ _ _ _ => false | _ => true
theorem sw_none {e : Expr} (h : noComp e = true) (t : Option Expr) (l : Nat) (env : Env) : swapsWith e t l env = pure false := by
  cases e <;> first | rfl | (cases h; done)
theorem cs_expr {e : Expr} {m : Sl → R D} {pos} (hn : noComp e = true) (he : CE G Γ e m) : CS G Γ (.Expr e pos) (sDrop m) := by
  refine fun X ok W tk => PS.imp (ps_expr (he X ok W tk) (sw_none hn _ _ _)) fun D σ H h => ?_
  obtain ⟨B, F0, L, F, A, R, h⟩ := h
  exact ⟨B, F0, L, F, A, R, (pS.first R h).imp R fun k F1 H1 s1 R1 g1 h1 v rv => h1 σ H1 ⟨F1, A, .refl _, R1⟩⟩
/-! ### name = e -/
def sSet (i : Nat) (m : Sl → R D) : Sl → RS := sBind m fun d L => if okSet L i = true then .next (L.set i (some (.v d))) else .stuck
def sSetO (i : Nat) (m : Sl → R O) : Sl → RS := sBind m fun o L => if okSet L i = true then .next (L.set i (some o)) else .stuck
theorem set_endV {i : Nat} {m : Sl → R D} (h : tS G W (sSet i m) D' σ H) : tE G W m σ H fun x H1 => D'.nx (σ.set i (some x)) H1 := by
  obtain ⟨B, F0, L, F, A, R, h⟩ := h
  refine ⟨B, F0, L, F, A, R, (pS.first R h).imp R fun d F1 H1 s1 R1 g1 h1 v rv => ?_⟩
  split at h1
  · rename_i hi
    obtain ⟨A', R'⟩ := R1.set (okSet_of hi).1 (okSet_of hi).2 rv
    exact h1 _ _ ⟨F1, A', .refl _, R'⟩
  · exact h1.elim
theorem set_endO {i : Nat} {m : Sl → R O} (h : tS G W (sSetO i m) D' σ H) : tO G W m σ H fun x H1 => D'.nx (σ.set i (some x)) H1 := by
  obtain ⟨B, F0, L, F, A, R, h⟩ := h
  refine ⟨B, F0, L, F, A, R, (pS.first R h).imp R fun d F1 H1 s1 R1 g1 h1 v C ow nC fC => ?_⟩
  split at h1
  · rename_i hi
    obtain ⟨A', R'⟩ := R1.setO (okSet_of hi).1 (okSet_of hi).2 ow nC (fun a m m' => by obtain ⟨u, e⟩ := R.os.tracked a m'; rw [(fC a m).2] at e; cases e) (fun a m => ⟨(fC a m).1, R.sb.free (fC a m).2⟩)
    exact h1 _ _ ⟨F1, A', .refl _, R'⟩
  · exact h1.elim
theorem tO_of_fr {m : Sl → R O} {Q : VK} (h : tE G W (mFr m) σ H Q) : tO G W m σ H Q := by
  obtain ⟨B, F0, L, F, A, R, h⟩ := h
  exact ⟨B, F0, L, F, A, R, fr_end R.sf h⟩
def swapB (sc : Scope) (x : Str) (pos' : Pos) : Expr → Bool
  | .ListComp _ _ s p => (match sc.names.lookup x with | some .local => true | _ => false) && (pos'.line == p.line) && !(s.names.any fun (n, k) => n == x && (k == .local || k == .cell))
  | _ => false
def setOk : Expr → Bool | .SetComp _ _ _ _ => false | .DictComp _ _ _ _ _ => false | _ => true
theorem sw_eq {X : Cx} (ok : Γ.Ok G X) {e : Expr} {x : Str} {p : Pos} {l : Nat} (he : setOk e = true) (hb : swapB Γ.sc x p e = false) : swapsWith e (some (.Name x p)) l X.env = pure false := by
  cases e with
  | ListComp elt gs s pos =>
    have hbk : X.env.blockKind = .function := by unfold Env.blockKind; rw [ok.kind]; rfl
    unfold swapB at hb
    unfold swapsWith
    have hk : (X.env.kindOf x == some .local) = (match Γ.sc.names.lookup x with | some .local => true | _ => false) := by
      unfold Env.kindOf
      rw [ok.sc]
      split
      · rename_i e; rw [e]; rfl
      · rename_i h
        cases e : Γ.sc.names.lookup x with
        | none => rfl
        | some k => cases k <;> first | rfl | exact absurd e h
    simp only [hbk, hk, Expr.pos]
    show pure _ = pure false
    congr 1
  | SetComp => cases he
  | DictComp => cases he
  | _ => rfl
theorem cs_set {i : Nat} {x : Str} {e : Expr} {m : Sl → R D} {p pos : Pos} (hN : Γ.N[i]? = some x) (hx : locB Γ.sc x = true) (hf : Γ.st x = true) (he : setOk e = true) (hb : swapB Γ.sc x p e = false) (h : CE G Γ e m) : CS G Γ (.Assign [.Name x p] e pos) (sSet i m) :=
  fun X ok W tk => PS.imp (ps_set (i := i) (by rw [ok.N]; exact ok.nd) (by rw [ok.N]; exact hN) (by rw [ok.sc]; exact loc_of hx) (h X ok W tk) (sw_eq ok he hb) (ok.fnl x hf)) fun D σ H h => set_endV h
theorem cs_setO {i : Nat} {x : Str} {e : Expr} {m : Sl → R O} {p pos : Pos} (hN : Γ.N[i]? = some x) (hx : locB Γ.sc x = true) (hf : Γ.st x = true) (he : setOk e = true) (hb : swapB Γ.sc x p e = false) (h : CO G Γ e m) : CS G Γ (.Assign [.Name x p] e pos) (sSetO i m) :=
  fun X ok W tk => PS.imp (ps_set (i := i) (by rw [ok.N]; exact ok.nd) (by rw [ok.N]; exact hN) (by rw [ok.sc]; exact loc_of hx) (h X ok W tk) (sw_eq ok he hb) (ok.fnl x hf)) fun D σ H h => set_endO h
section
variable {elt tg iter : Expr} {ifs : List Expr} {scope : Scope} {own : List (Str × Nat)} {ws : List Nat} {p pos spos : Pos} {it : Sl → R (List D)} {gm : D → Sl → Option Sl} {tst : Sl → R Bool} {el : Sl → R D} {i : Nat} {y : Str}
theorem lookLocal {sc : Scope} (h : (match sc.names.lookup y with | some .local => true | _ => false) = true) : sc.names.lookup y = some .local := by
  split at h
  · assumption
  · cases h
theorem ps_lc (hN : Γ.N[i]? = some y) (hsw : swapB Γ.sc y p (.ListComp elt [⟨tg, iter, ifs, 0⟩] scope pos) = true)
    (hi : CI G Γ tg iter it) (hb : blkC Γ.N Γ.sc scope own = true) (hg : CG G (Γ.blk scope) tg ws gm) (ht : CTs G (Γ.blk scope) ifs tst) (he : CE G (Γ.blk scope) elt el) (hs : (noSet iter && Γ.cm) = true) {X : Cx} (ok : Γ.Ok G X) {W : WX} (tk : Takes X W) :
    PS X (.Assign [.Name y p] (.ListComp elt [⟨tg, iter, ifs, 0⟩] scope pos) spos) (tAsg (tLc (tI G W it) (gD G ws gm) (tT G W0 tst) (tE G W0 el) (own.map (·.2))) (gName i)) := by
  unfold swapB at hsw
  simp only [Bool.and_eq_true, Bool.not_eq_true'] at hsw
  obtain ⟨⟨h1, h2⟩, h3⟩ := hsw
  have hl := lookLocal h1
  exact ps_setLc (ok.calm (by rw [Bool.and_eq_true] at hs; exact hs.2)) (by rw [ok.N]; exact ok.nd) (by rw [ok.N]; exact hN) (by rw [ok.sc]; exact hl) (sw_true ok.kind (by rw [ok.sc]; exact hl) h2 h3) (hi X ok W tk) (by rw [ok.N, ok.sc]; exact blkOk_by hb) (fun s H C cl fp => hg _ (ok.blk (blkOk_by hb).kind s H C cl fp)) (fun s H C cl fp => ht _ (ok.blk (blkOk_by hb).kind s H C cl fp) W0 takes0)
    (fun s H C cl fp => he _ (ok.blk (blkOk_by hb).kind s H C cl fp) W0 takes0) (noSet_of (by rw [Bool.and_eq_true] at hs; exact hs.1) _)
theorem cs_setLcO (hN : Γ.N[i]? = some y) (hsw : swapB Γ.sc y p (.ListComp elt [⟨tg, iter, ifs, 0⟩] scope pos) = true)
    (hi : CI G Γ tg iter it) (hb : blkC Γ.N Γ.sc scope own = true) (hsub : ∀ i ∈ ws, i ∈ own.map (·.2)) (hg : CG G (Γ.blk scope) tg ws gm) (ht : CTs G (Γ.blk scope) ifs tst) (he : CE G (Γ.blk scope) elt el) (hs : (noSet iter && Γ.cm) = true) :
    CS G Γ (.Assign [.Name y p] (.ListComp elt [⟨tg, iter, ifs, 0⟩] scope pos) spos) (sSetO i (mLc it (own.map (·.2)) gm tst el)) :=
  fun X ok W tk => PS.imp (ps_lc hN hsw hi hb hg ht he hs ok tk) fun D σ H h => lc_read hsub (set_endO h)
theorem cs_setLcV (hN : Γ.N[i]? = some y) (hsw : swapB Γ.sc y p (.ListComp elt [⟨tg, iter, ifs, 0⟩] scope pos) = true)
    (hi : CI G Γ tg iter it) (hb : blkC Γ.N Γ.sc scope own = true) (hsub : ∀ i ∈ ws, i ∈ own.map (·.2)) (hg : CG G (Γ.blk scope) tg ws gm) (ht : CTs G (Γ.blk scope) ifs tst) (he : CE G (Γ.blk scope) elt el) (hs : (noSet iter && Γ.cm) = true) :
    CS G Γ (.Assign [.Name y p] (.ListComp elt [⟨tg, iter, ifs, 0⟩] scope pos) spos) (sSet i (mFr (mLc it (own.map (·.2)) gm tst el))) :=
  fun X ok W tk => PS.imp (ps_lc hN hsw hi hb hg ht he hs ok tk) fun D σ H h => lc_read hsub (tO_of_fr (set_endV h))
end
/-! ### a, b = e -/
def sTg (g : D → Sl → Option Sl) (m : Sl → R D) : Sl → RS := sBind m fun d L => match g d L with | some L' => .next L' | none => .stuck
def noTup : Expr → Bool | .Tuple _ _ _ => false | _ => true
theorem sw_tup {ts : List Expr} {k : Nat} {p : Pos} {e : Expr} (h : setOk e = true) (l : Nat) (env : Env) : swapsWithSole [.Tuple ts k p] e l env = pure false := by
  cases e <;> first | rfl | (cases h; done)
theorem st_tup {ts : List Expr} {k : Nat} {p : Pos} {e : Expr} (h : noTup e = true) (env : Env) : swappedStores [.Tuple ts k p] e env = pure none := by
  cases e <;> first | rfl | (cases h; done)
theorem cs_tg {ts : List Expr} {k : Nat} {p pos : Pos} {e : Expr} {vs : List Nat} {g : D → Sl → Option Sl} {m : Sl → R D} (h1 : setOk e = true) (h2 : noTup e = true) (he : CE G Γ e m) (hg : CG G Γ (.Tuple ts k p) vs g) : CS G Γ (.Assign [.Tuple ts k p] e pos) (sTg g m) := by
  refine fun X ok W tk => PS.imp (ps_asg (he X ok W tk) (hg X ok) (sw_tup h1 _ _) (st_tup h2 _) rfl) fun D σ H h => ?_
  obtain ⟨B, F0, L, F, A, R, h⟩ := h
  refine ⟨B, F0, L, F, A, R, (pS.first R h).imp R fun d F1 H1 s1 R1 g1 h1 v rv => ?_⟩
  cases e : g d L with
  | none => rw [e] at h1; exact h1.elim
  | some L' =>
    rw [e] at h1
    exact ⟨B, F0, L, F1, A, d, R1, rv, L', e, fun σ' A' out s2 R2 => h1 _ _ ⟨F1, A', .refl _, R2⟩⟩
/-! ### for -/
def forGo (tg : D → Sl → Option Sl) (body : Sl → RS) : Sl → List D → RS
  | L, [] => .next L
  | L, x :: xs => match tg x L with
    | none => .stuck
    | some L1 => match body L1 with
      | .next L2 => forGo tg body L2 xs
      | .cont L2 => forGo tg body L2 xs
      | .brk L2 => .next L2
      | .ret o L2 => .ret o L2
      | .exc c L2 => .exc c L2
      | .stuck => .stuck
def sFor (it : Sl → R (List D)) (tg : D → Sl → Option Sl) (body : Sl → RS) : Sl → RS := sBind it fun ds L => forGo tg body L ds
theorem cs_for {tg iter : Expr} {b : List Stmt} {ws : List Nat} {it : Sl → R (List D)} {g : D → Sl → Option Sl} {body : Sl → RS} {pos : Pos} (hs : (noSet iter && Γ.cm) = true) (hi : CI G Γ tg iter it) (hg : CG G Γ tg ws g) (hb : CSs G Γ b body) : CS G Γ (.For tg iter b [] pos) (sFor it g body) := by
  refine fun X ok W tk => PS.imp (ps_for ok.pass (ok.calm (by rw [Bool.and_eq_true] at hs; exact hs.2)) (hi X ok W tk) (hg X ok) (hb X ok W tk) (noSet_of (by rw [Bool.and_eq_true] at hs; exact hs.1) _)) fun D σ H h => ?_
  obtain ⟨B, F0, L, F, A, R, h⟩ := h
  refine ⟨B, F0, L, F, A, R, (pS.first R h).imp R fun ds F1 H1 s1 R1 g1 h1 J iJ => ?_⟩
  refine ⟨fun i m σ H => m = ds.length - i ∧ i ≤ ds.length ∧ ∃ Li Fi Ai, Same F1 Fi ∧ Rl G B F0 Li Fi Ai σ H ∧ pS G W B F0 Fi (forGo g body Li (ds.drop i)) D, ⟨_, rfl, Nat.zero_le _, L, F1, A, .refl _, R1, h1⟩, fun i m σi Hi hW => ?_⟩
  obtain ⟨rfl, hi, Li, Fi, Ai, si, Ri, hp⟩ := hW
  by_cases hlt : i < ds.length
  · rw [List.drop_eq_getElem_cons hlt] at hp
    unfold forGo at hp
    refine .inr ⟨iJ.go i Fi Hi si Ri.sf hlt, fun σ' H' => i + 1 ≤ ds.length ∧ ∃ Lj Fj Aj, Same F1 Fj ∧ Rl G B F0 Lj Fj Aj σ' H' ∧ pS G W B F0 Fj (forGo g body Lj (ds.drop (i + 1))) D, fun σ' H' hn => ⟨ds.length - (i + 1), by omega, rfl, hn⟩, fun x H' hy => ?_⟩
    obtain ⟨d, F2, ed, g2, rx⟩ := iJ.yl i Fi Hi x H' si Ri.sf hlt hy
    have ed' : ds[i] = d := by rw [List.getElem?_eq_getElem hlt] at ed; exact Option.some.inj ed
    rw [ed'] at hp
    cases e : g d Li with
    | none => rw [e] at hp; exact hp.elim
    | some L1 =>
      rw [e] at hp
      refine ⟨B, F0, Li, F2, Ai, d, Ri.gr g2, rx, L1, e, fun σ2 A2 out s2 R2 => ⟨B, F0, L1, F2, A2, R2, ?_⟩⟩
      have hp := pS.mono g2.sF hp
      dsimp only at hp
      cases e2 : body L1 with
      | next L2 =>
        rw [e2] at hp
        rintro σ3 H3 ⟨F3, A3, s3, R3⟩
        exact ⟨hlt, L2, F3, A3, (si.trans g2.sF).trans s3, R3, pS.mono s3 hp⟩
      | cont L2 =>
        rw [e2] at hp
        rintro σ3 H3 ⟨F3, A3, s3, R3⟩
        exact ⟨hlt, L2, F3, A3, (si.trans g2.sF).trans s3, R3, pS.mono s3 hp⟩
      | brk L2 => rw [e2] at hp; exact hp
      | ret o L2 => rw [e2] at hp; exact hp
      | exc c L2 => rw [e2] at hp; exact hp
      | stuck => rw [e2] at hp; exact hp.elim
  · have hn : ds.length ≤ i := by omega
    rw [List.drop_eq_nil_of_le hn] at hp
    exact .inl ⟨iJ.st i Fi Hi si Ri.sf hn, hp σi Hi ⟨Fi, Ai, .refl _, Ri⟩⟩
/-! ### while -/
def whGo (c : Sl → R Bool) (body : Sl → RS) : Nat → Sl → RS
  | 0, _ => .stuck
  | n + 1, L => match c L with
    | .stuck => .stuck
    | .exc x => .exc x L
    | .ok b => if b = true then (match body L with
        | .next L2 => whGo c body n L2
        | .cont L2 => whGo c body n L2
        | .brk L2 => .next L2
        | .ret o L2 => .ret o L2
        | .exc c L2 => .exc c L2
        | .stuck => .stuck) else .next L
def sWhile (n : Nat) (c : Sl → R Bool) (body : Sl → RS) : Sl → RS := whGo c body n
theorem cs_while {c : Expr} {b : List Stmt} {mc : Sl → R Bool} {body : Sl → RS} {pos : Pos} (n : Nat) (hc : CT G Γ c mc) (hb : CSs G Γ b body) : CS G Γ (.While c b [] pos) (sWhile n mc body) := by
  refine fun X ok W tk => PS.imp (ps_while ok.pass (hc X ok W tk) (hb X ok W tk)) fun D σ H h => ?_
  obtain ⟨B, F0, L, F, A, R, h⟩ := h
  refine ⟨fun m σ H => ∃ Li Fi Ai, Rl G B F0 Li Fi Ai σ H ∧ pS G W B F0 Fi (whGo mc body m Li) D, ⟨n, L, F, A, R, h⟩, fun m σi Hi hW => ?_⟩
  obtain ⟨Li, Fi, Ai, Ri, hp⟩ := hW
  cases m with
  | zero => exact hp.elim
  | succ m =>
    unfold whGo at hp
    refine ⟨B, F0, Li, Fi, Ai, Ri, ?_⟩
    cases e : mc Li with
    | stuck => rw [e] at hp; exact hp.elim
    | exc x => rw [e] at hp; obtain ⟨C, eC, hp⟩ := hp; exact ⟨C, eC, fun F' H' g => hp _ _ ⟨F', Ai, g.sF, Ri.gr g⟩⟩
    | ok k =>
      rw [e] at hp
      intro F1 H1 g1
      have R1 := Ri.gr g1
      cases k with
      | false => exact iteF (hp _ _ ⟨F1, Ai, g1.sF, R1⟩)
      | true =>
        dsimp only at hp
        rw [if_pos rfl] at hp
        refine iteT ⟨fun σ' H' => ∃ Lj Fj Aj, Rl G B F0 Lj Fj Aj σ' H' ∧ pS G W B F0 Fj (whGo mc body m Lj) D, fun σ' H' hn => ⟨m, Nat.lt_succ_self _, hn⟩, B, F0, Li, F1, Ai, R1, ?_⟩
        have hp := pS.mono g1.sF hp
        cases e2 : body Li with
        | next L2 =>
          rw [e2] at hp
          rintro σ3 H3 ⟨F3, A3, s3, R3⟩
          exact ⟨L2, F3, A3, R3, pS.mono s3 hp⟩
        | cont L2 =>
          rw [e2] at hp
          rintro σ3 H3 ⟨F3, A3, s3, R3⟩
          exact ⟨L2, F3, A3, R3, pS.mono s3 hp⟩
        | brk L2 => rw [e2] at hp; exact hp
        | ret o L2 => rw [e2] at hp; exact hp
        | exc c L2 => rw [e2] at hp; exact hp
        | stuck => rw [e2] at hp; exact hp.elim
/-! ### raise -/
def sRaise (c : Str) : Sl → RS := fun L => .exc c L
theorem cs_raise (gr : Γ.Gr G) {c m : Str} {j : Nat} {p p2 p3 pos : Pos} (hcm : Γ.cm = true) (hm : c ∈ Γ.E) (hg : glB Γ.sc c = true) (hdb : (c == ("__debug__" : Str)) = false) : CS G Γ (.Raise (some (.Call (.Name c p) [.Constant (.str m) j p2] [] p3)) none pos) (sRaise c) := by
  obtain ⟨C, e1, e2, e3, e4, e5⟩ := gr.ex c hm
  refine fun X ok W tk => PS.imp (ps_raise (ok.calm hcm) tk (pmk_own PySem.F.excBase_ValueError (by rw [ok.K]; exact e2) (by rw [ok.mg]; exact e1) (by rw [ok.K]; exact e3) (raises_own (by rw [ok.K]; exact e4) (by rw [ok.K]; exact e5)) (gl_of ok.sc hg) hdb)) fun D σ H h => ?_
  obtain ⟨B, F0, L, F, A, R, C', eC, h⟩ := h
  rw [e1] at eC; cases eC
  exact h σ H ⟨F, A, .refl _, R⟩
end
end Eng

end
section
set_option Elab.async false
set_option linter.all false
set_option maxRecDepth 100000
set_option maxHeartbeats 4000000
/-! the engine, part 9: expressions that look at owned things; freezing a slot; a def from its body -/
namespace Eng
open PySem PySem.Spec PyProof.Rows L2

/-! ### data without lists and dicts -/
mutual
def D.pl (i : Bool) : D → Bool
  | .non => true
  | .bl _ => true
  | .int _ => true
  | .str _ => true
  | .lst _ => false
  | .tup xs => D.plA i xs
  | .ins _ fs => i && D.plF i fs
  | .dk _ => false
  | .dt _ => false
  | .exn _ _ => false
  | .opq => true
def D.plA (i : Bool) : List D → Bool
  | [] => true
  | d :: ds => d.pl i && D.plA i ds
def D.plF (i : Bool) : List (Str × D) → Bool
  | [] => true
  | (_, d) :: ds => d.pl i && D.plF i ds
end
mutual
def O.pl (i : Bool) : O → Bool
  | .v d => d.pl i
  | .ml xs => O.plA i xs
  | .mt xs => O.plA i xs
  | .mk kvs => O.plK i kvs
  | .mq kvs => O.plT i kvs
  | .mi _ _ fs => O.plF i fs
  | .pin o => o.pl i
  | .me _ kvs => O.plK i kvs
def O.plA (i : Bool) : List O → Bool
  | [] => true
  | o :: os => o.pl i && O.plA i os
def O.plK (i : Bool) : List (Key × O) → Bool
  | [] => true
  | (_, o) :: os => o.pl i && O.plK i os
def O.plT (i : Bool) : List (List Key × O) → Bool
  | [] => true
  | (_, o) :: os => o.pl i && O.plT i os
def O.plF (i : Bool) : List (Str × O) → Bool
  | [] => true
  | (_, o) :: os => o.pl i && O.plF i os
end
mutual
def O.noI : O → Bool
  | .v _ => true
  | .ml xs => O.noIA xs
  | .mt xs => O.noIA xs
  | .mk kvs => O.noIK kvs
  | .mq kvs => O.noIT kvs
  | .mi _ _ _ => false
  | .pin o => o.noI
  | .me _ kvs => O.noIK kvs
def O.noIA : List O → Bool
  | [] => true
  | o :: os => o.noI && O.noIA os
def O.noIK : List (Key × O) → Bool
  | [] => true
  | (_, o) :: os => o.noI && O.noIK os
def O.noIT : List (List Key × O) → Bool
  | [] => true
  | (_, o) :: os => o.noI && O.noIT os
end
def noIS : Sl → Bool
  | [] => true
  | none :: L => noIS L
  | some o :: L => o.noI && noIS L
theorem and2 {a b : Bool} (h : (a && b) = true) : a = true ∧ b = true := by cases a <;> cases b <;> simp_all
section
variable {tg : Tg} {K : PySem.W.Frag} {mg : Str → Option Value} {F F' H : Hp} {i : Bool}
/-- what plain data stand on is kept -/
structure KpI (i : Bool) (F F' : Hp) : Prop where
  tup : ∀ a xs, F a = some (.tup xs) → F' a = some (.tup xs)
  ins : i = true → ∀ a C dx fs, F a = some (.ins C dx fs) → F' a = some (.ins C dx fs)
mutual
theorem Rp.un (h : KpI i F F') : ∀ {v : V} {d : D}, d.pl i = true → Rp K mg F v d → Rp K mg F' v d
  | _, _, _, .non => .non
  | _, _, _, .bl b => .bl b
  | _, _, _, .int b => .int b
  | _, _, _, .str b => .str b
  | _, _, e, .lst _ _ => by unfold D.pl at e; cases e
  | _, _, e, .tup hs r => .tup (h.tup _ _ hs) (RpA.un h (by unfold D.pl at e; exact e) r)
  | _, _, e, .ins hs em r => by
    unfold D.pl at e
    exact .ins (h.ins (and2 e).1 _ _ _ _ hs) em (RpF.un h (and2 e).2 r)
  | _, _, e, .dk _ _ => by unfold D.pl at e; cases e
  | _, _, e, .dt _ _ => by unfold D.pl at e; cases e
  | _, _, e, .exn _ _ _ _ => by unfold D.pl at e; cases e
  | _, _, _, .opq v => .opq v
theorem RpA.un (h : KpI i F F') : ∀ {v : List V} {d : List D}, D.plA i d = true → RpA K mg F v d → RpA K mg F' v d
  | _, _, _, .nil => .nil
  | _, _, e, .cons r t => by
    unfold D.plA at e
    exact .cons (Rp.un h (and2 e).1 r) (RpA.un h (and2 e).2 t)
theorem RpF.un (h : KpI i F F') : ∀ {v : List (Str × V)} {d : List (Str × D)}, D.plF i d = true → RpF K mg F v d → RpF K mg F' v d
  | _, _, _, .nil => .nil
  | _, _, e, .cons r t => by
    unfold D.plF at e
    exact .cons (Rp.un h (and2 e).1 r) (RpF.un h (and2 e).2 t)
end
mutual
theorem Ow.un (h : KpI i F F') : ∀ {v : V} {o : O} {A : List Addr}, o.pl i = true → Ow tg K mg F H v o A → Ow tg K mg F' H v o A
  | _, _, _, e, .v r => .v (Rp.un h (by unfold O.pl at e; exact e) r)
  | _, _, _, e, .ml hs r => .ml hs (OwA.un h (by unfold O.pl at e; exact e) r)
  | _, _, _, e, .mt hs r => .mt (h.tup _ _ hs) (OwA.un h (by unfold O.pl at e; exact e) r)
  | _, _, _, e, .mk hs r => .mk hs (OwK.un h (by unfold O.pl at e; exact e) r)
  | _, _, _, e, .mq hs r => .mq hs (OwT.un h (by unfold O.pl at e; exact e) r)
  | _, _, _, e, .mi hs em r => .mi hs em (OwF.un h (by unfold O.pl at e; exact e) r)
  | _, _, _, e, .pin r => .pin (Ow.un h (by unfold O.pl at e; exact e) r)
  | _, _, _, e, .me e1 hs r => .me e1 hs (OwK.un h (by unfold O.pl at e; exact e) r)
theorem OwA.un (h : KpI i F F') : ∀ {v : List V} {o : List O} {A : List Addr}, O.plA i o = true → OwA tg K mg F H v o A → OwA tg K mg F' H v o A
  | _, _, _, _, .nil => .nil
  | _, _, _, e, .cons r t => by
    unfold O.plA at e
    exact .cons (Ow.un h (and2 e).1 r) (OwA.un h (and2 e).2 t)
theorem OwK.un (h : KpI i F F') : ∀ {v : List (Key × V)} {o : List (Key × O)} {A : List Addr}, O.plK i o = true → OwK tg K mg F H v o A → OwK tg K mg F' H v o A
  | _, _, _, _, .nil => .nil
  | _, _, _, e, .cons r t => by
    unfold O.plK at e
    exact .cons (Ow.un h (and2 e).1 r) (OwK.un h (and2 e).2 t)
theorem OwT.un (h : KpI i F F') : ∀ {v : List (List Key × V)} {o : List (List Key × O)} {A : List Addr}, O.plT i o = true → OwT tg K mg F H v o A → OwT tg K mg F' H v o A
  | _, _, _, _, .nil => .nil
  | _, _, _, e, .cons r t => by
    unfold O.plT at e
    exact .cons (Ow.un h (and2 e).1 r) (OwT.un h (and2 e).2 t)
theorem OwF.un (h : KpI i F F') : ∀ {v : List (Str × V)} {o : List (Str × O)} {A : List Addr}, O.plF i o = true → OwF tg K mg F H v o A → OwF tg K mg F' H v o A
  | _, _, _, _, .nil => .nil
  | _, _, _, e, .cons r t => by
    unfold O.plF at e
    exact .cons (Ow.un h (and2 e).1 r) (OwF.un h (and2 e).2 t)
end
/-- a list or a dict -/
def MutL : HO → Prop | .lst _ => True | .dK _ => True | .dT _ => True | .ext _ => True | _ => False
theorem mem_cons_or {a b : Addr} {A : List Addr} {P : Addr → Prop} (h : P b) (t : ∀ x ∈ A, P x) : a ∈ b :: A → P a := fun m => by
  rcases List.mem_cons.mp m with rfl | m
  · exact h
  · exact t a m
theorem mem_app_or {a : Addr} {A B : List Addr} {P : Addr → Prop} (h : ∀ x ∈ A, P x) (t : ∀ x ∈ B, P x) : a ∈ A ++ B → P a := fun m => (List.mem_append.mp m).elim (h a) (t a)
mutual
theorem Ow.mutL : ∀ {v : V} {o : O} {A : List Addr}, o.noI = true → Ow tg K mg F H v o A → ∀ a ∈ A, ∃ u, H a = Option.some u ∧ MutL u
  | _, _, _, _, .v r => fun _ m => nomatch m
  | _, _, _, e, .ml hs r => fun a => mem_cons_or ⟨_, hs, trivial⟩ (OwA.mutL (by unfold O.noI at e; exact e) r)
  | _, _, _, e, .mt hs r => OwA.mutL (by unfold O.noI at e; exact e) r
  | _, _, _, e, .mk hs r => fun a => mem_cons_or ⟨_, hs, trivial⟩ (OwK.mutL (by unfold O.noI at e; exact e) r)
  | _, _, _, e, .mq hs r => fun a => mem_cons_or ⟨_, hs, trivial⟩ (OwT.mutL (by unfold O.noI at e; exact e) r)
  | _, _, _, e, .mi _ _ _ => by unfold O.noI at e; cases e
  | _, _, _, e, .pin r => Ow.mutL (by unfold O.noI at e; exact e) r
  | _, _, _, e, .me _ hs r => fun a => mem_cons_or ⟨_, hs, trivial⟩ (OwK.mutL (by unfold O.noI at e; exact e) r)
theorem OwA.mutL : ∀ {v : List V} {o : List O} {A : List Addr}, O.noIA o = true → OwA tg K mg F H v o A → ∀ a ∈ A, ∃ u, H a = Option.some u ∧ MutL u
  | _, _, _, _, .nil => fun _ m => nomatch m
  | _, _, _, e, .cons r t => fun a => mem_app_or (Ow.mutL (by unfold O.noIA at e; exact (and2 e).1) r) (OwA.mutL (by unfold O.noIA at e; exact (and2 e).2) t)
theorem OwK.mutL : ∀ {v : List (Key × V)} {o : List (Key × O)} {A : List Addr}, O.noIK o = true → OwK tg K mg F H v o A → ∀ a ∈ A, ∃ u, H a = Option.some u ∧ MutL u
  | _, _, _, _, .nil => fun _ m => nomatch m
  | _, _, _, e, .cons r t => fun a => mem_app_or (Ow.mutL (by unfold O.noIK at e; exact (and2 e).1) r) (OwK.mutL (by unfold O.noIK at e; exact (and2 e).2) t)
theorem OwT.mutL : ∀ {v : List (List Key × V)} {o : List (List Key × O)} {A : List Addr}, O.noIT o = true → OwT tg K mg F H v o A → ∀ a ∈ A, ∃ u, H a = Option.some u ∧ MutL u
  | _, _, _, _, .nil => fun _ m => nomatch m
  | _, _, _, e, .cons r t => fun a => mem_app_or (Ow.mutL (by unfold O.noIT at e; exact (and2 e).1) r) (OwT.mutL (by unfold O.noIT at e; exact (and2 e).2) t)
end
theorem OwS.mutL : ∀ {σ : L2.St} {L : Sl} {A : List Addr}, noIS L = true → OwS tg K mg F H σ L A → ∀ a ∈ A, ∃ u, H a = Option.some u ∧ MutL u
  | _, _, _, _, .nil => fun _ m => nomatch m
  | _, _, _, e, .none t => OwS.mutL (by unfold noIS at e; exact e) t
  | _, _, _, e, .some r t => fun a => mem_app_or (Ow.mutL (by unfold noIS at e; exact (and2 e).1) r) (OwS.mutL (by unfold noIS at e; exact (and2 e).2) t)
/-- the slots as they are now -/
def frL : Sl → Sl
  | [] => []
  | none :: L => none :: frL L
  | some o :: L => some (.v o.fr) :: frL L
theorem OwS.fr {Bs : List Addr} (hB : ∀ a ∈ Bs, F a = Option.none) : ∀ {σ : L2.St} {L : Sl} {A : List Addr}, (∀ a ∈ A, a ∈ Bs) → OwS tg K mg F H σ L A → OwS tg K mg (join F H Bs) H σ (frL L) []
  | _, _, _, _, .nil => .nil
  | _, _, _, h, .none t => .none (OwS.fr hB h t)
  | _, _, _, h, .some r t => OwS.some (A := []) (B := []) (.v (Ow.fr hB (fun a m => h a (List.mem_append_left _ m)) r)) (OwS.fr hB (fun a m => h a (List.mem_append_right _ m)) t)
end
section
variable {G : Gd} {Γ : Gm} {W : WX} {B : Bd} {F0 F H : Hp} {L : Sl} {A : List Addr} {σ : L2.St}
theorem Rl.view (R : Rl G B F0 L F A σ H) : Rl G ⟨B.h, []⟩ F0 (frL L) (join F H A) [] σ H := by
  have s1 : Same F (join F H A) := join_same fun a m => (R.fa a m).1
  refine ⟨R.os.fr (fun a m => (R.fa a m).1) (fun _ m => m), List.nodup_nil, join_le R.sf, R.f0.trans s1, R.sb, fun a h0 h1 => ?_, fun _ m => (nomatch m), fun _ m => nomatch m⟩
  by_cases hm : a ∈ A
  · exact absurd (R.fa a hm).2 h1.1
  · rw [join_not hm]; exact R.fb a h0 h1
/-- F' without A -/
def less (F : Hp) (A : List Addr) : Hp := fun a => if a ∈ A then none else F a
theorem less_mem {a : Addr} (h : a ∈ A) : less F A a = none := if_pos h
theorem less_not {a : Addr} (h : a ∉ A) : less F A a = F a := if_neg h
theorem view_grow (R : Rl G B F0 L F A σ H) {F' H' : Hp} (g : Grow (join F H A) H F' H') : Grow F H (less F' A) H' := by
  refine ⟨g.sH, fun a u e => ?_, fun a u e => ?_, fun a e n => ?_⟩
  · have hm : a ∉ A := fun m => by rw [(R.fa a m).1] at e; cases e
    rw [less_not hm]
    exact g.sF _ _ (by rw [join_not hm]; exact e)
  · by_cases hm : a ∈ A
    · rw [less_mem hm] at e; cases e
    · rw [less_not hm] at e; exact g.le _ _ e
  · by_cases hm : a ∈ A
    · exact less_mem hm
    · rw [less_not hm]; exact g.hf a (by rw [join_not hm]; exact e) n
def vOk (L : Sl) (p : Bool → Bool) : Bool := p false || (noIS L && p true)
theorem view_kp (R : Rl G B F0 L F A σ H) {F' H' : Hp} (g : Grow (join F H A) H F' H') {p : Bool → Bool} (h : vOk L p = true) : ∃ i, p i = true ∧ KpI i F' (less F' A) := by
  have at1 : ∀ a ∈ A, ∀ u, F' a = some u → H a = some u := fun a m u e => by
    obtain ⟨w, hw⟩ := R.os.tracked a m
    have := g.sF a w (by rw [join_mem m]; exact hw)
    rw [e] at this; cases this; exact hw
  have tup : ∀ a xs, F' a = some (.tup xs) → less F' A a = some (.tup xs) := fun a xs e => by
    by_cases hm : a ∈ A
    · obtain ⟨u, hu, mu⟩ := R.os.mut a hm
      rw [at1 a hm _ e] at hu; cases hu; exact mu.elim
    · rw [less_not hm]; exact e
  unfold vOk at h
  rw [Bool.or_eq_true] at h
  rcases h with h | h
  · exact ⟨false, h, tup, fun z => by cases z⟩
  · refine ⟨true, (and2 h).2, tup, fun _ a C dx fs e => ?_⟩
    by_cases hm : a ∈ A
    · obtain ⟨u, hu, mu⟩ := R.os.mutL (and2 h).1 a hm
      rw [at1 a hm _ e] at hu; cases hu; exact mu.elim
    · rw [less_not hm]; exact e
def vT {α : Type} (m : Sl → R α) : Sl → R α := fun L => m (frL L)
def vE (m : Sl → R D) : Sl → R D := fun L => (m (frL L)).bind fun d => if vOk L d.pl = true then .ok d else .stuck
def vO (m : Sl → R O) : Sl → R O := fun L => (m (frL L)).bind fun d => if vOk L d.pl = true then .ok d else .stuck
theorem ct_view {e : Expr} {m : Sl → R Bool} (h : CT G Γ e m) : CT G Γ e (vT m) := by
  refine fun X ok W tk => PT.imp (h X ok W tk) fun σ H Q h => ?_
  obtain ⟨B, F0, L, F, A, R, h⟩ := h
  refine ⟨_, F0, _, _, _, R.view, ?_⟩
  unfold vT at h
  cases e : m (frL L) with
  | ok a => rw [e] at h; exact fun F' H' g => h _ H' (view_grow R g)
  | exc c => rw [e] at h; obtain ⟨C, eC, h⟩ := h; exact ⟨C, eC, fun F' H' g => h _ H' (view_grow R g)⟩
  | stuck => rw [e] at h; exact h.elim
theorem ce_view {e : Expr} {m : Sl → R D} (h : CE G Γ e m) : CE G Γ e (vE m) := by
  refine fun X ok W tk => PE.imp (h X ok W tk) fun σ H Q h => ?_
  obtain ⟨B, F0, L, F, A, R, h⟩ := h
  refine ⟨_, F0, _, _, _, R.view, ?_⟩
  unfold vE at h
  cases e : m (frL L) with
  | ok a =>
    rw [e] at h
    have h : pG G W σ F H (if vOk L a.pl = true then .ok a else .stuck) (fun d F' H' => ∀ v, Rp G.K G.mg F' v d → Q v H') := h
    split at h
    · rename_i hv
      intro F' H' g v rv
      obtain ⟨i, hi, kp⟩ := view_kp R g hv
      exact h _ H' (view_grow R g) v (rv.un kp hi)
    · exact h.elim
  | exc c => rw [e] at h; obtain ⟨C, eC, h⟩ := h; exact ⟨C, eC, fun F' H' g => h _ H' (view_grow R g)⟩
  | stuck => rw [e] at h; exact h.elim
theorem co_view {e : Expr} {m : Sl → R O} (h : CO G Γ e m) : CO G Γ e (vO m) := by
  refine fun X ok W tk => PE.imp (h X ok W tk) fun σ H Q h => ?_
  obtain ⟨B, F0, L, F, A, R, h⟩ := h
  refine ⟨_, F0, _, _, _, R.view, ?_⟩
  unfold vO at h
  cases e : m (frL L) with
  | ok a =>
    rw [e] at h
    have h : pG G W σ F H (if vOk L a.pl = true then .ok a else .stuck) (fun o F' H' => ∀ v C, Ow G.tg G.K G.mg F' H' v o C → C.Nodup → (∀ a ∈ C, F' a = none ∧ H a = none) → Q v H') := h
    split at h
    · rename_i hv
      intro F' H' g v C ow nC fC
      obtain ⟨i, hi, kp⟩ := view_kp R g hv
      refine h _ H' (view_grow R g) v C (ow.un kp hi) nC fun a m => ⟨?_, (fC a m).2⟩
      by_cases hm : a ∈ A
      · exact less_mem hm
      · rw [less_not hm]; exact (fC a m).1
    · exact h.elim
  | exc c => rw [e] at h; obtain ⟨C, eC, h⟩ := h; exact ⟨C, eC, fun F' H' g => h _ H' (view_grow R g)⟩
  | stuck => rw [e] at h; exact h.elim
/-! ### a slot frozen, whatever it held -/
theorem get_set {α : Type} {l : List α} {i : Nat} {x : α} (h : l[i]? = some x) : l.set i x = l := by
  obtain ⟨hi, e⟩ := List.getElem?_eq_some_iff.mp h
  subst e; exact List.set_getElem_self hi
theorem Rl.frzS (R : Rl G B F0 L F A σ H) {i : Nat} {o : O} (e : L[i]? = some (some o)) (hp : isPin L i = false) : ∃ F' A', Same F F' ∧ Rl G B F0 (L.set i (some (.v o.fr))) F' A' σ H := by
  obtain ⟨v, A1, Ai, A2, h1, h2, h3, h4⟩ := R.os.get e
  have hi : ∀ a ∈ Ai, a ∈ A := fun a m => by rw [h3]; simp [m]
  have s1 : Same F (join F H Ai) := join_same fun a m => (R.fa a (hi a m)).1
  have nd := R.nd
  rw [h3] at nd
  have n1 := List.nodup_append.mp nd
  have n2 := List.nodup_append.mp n1.1
  have q := h4 (join F H Ai) H v (.v o.fr) [] s1 (fun _ _ => rfl) (.v (Ow.fr (fun a m => (R.fa a (hi a m)).1) (fun a m => m) h2))
  rw [get_set h1, List.append_nil] at q
  have sub : ∀ a ∈ A1 ++ A2, a ∈ A ∧ a ∉ Ai := fun a m => by
    refine ⟨by rw [h3]; simp at m ⊢; rcases m with m | m <;> simp [m], fun ha => ?_⟩
    rcases List.mem_append.mp m with m | m
    · exact n2.2.2 a m a ha rfl
    · exact n1.2.2 a (List.mem_append_right _ ha) a m rfl
  refine ⟨join F H Ai, A1 ++ A2, s1, q, ?_, join_le R.sf, R.f0.trans s1, R.sb, fun a h0 h1 => ?_, fun a m => ?_, by have z := pn_set (x := some (.v o.fr)) (y := some v) hp R.pn; rw [get_set h1] at z; exact z⟩
  · exact List.nodup_append.mpr ⟨n2.1, n1.2.1, fun a ha b hb => n1.2.2 a (List.mem_append_left _ ha) b hb⟩
  · by_cases hm : a ∈ Ai
    · exact absurd (R.fa a (hi a hm)).2 h1.1
    · rw [join_not hm]; exact R.fb a h0 h1
  · obtain ⟨m1, m2⟩ := sub a m
    rw [join_not m2]; exact R.fa a m1
def sFrz (i : Nat) (k : Sl → RS) : Sl → RS := fun L => match L[i]? with | some (some o) => if okSet L i = true then k (L.set i (some (.v o.fr))) else .stuck | _ => .stuck
theorem frz_end {i : Nat} {k : Sl → RS} {D' : Ends} (h : tS G W (sFrz i k) D' σ H) : tS G W k D' σ H := by
  obtain ⟨B, F0, L, F, A, R, h⟩ := h
  unfold sFrz at h
  split at h
  · rename_i o e
    split at h
    · rename_i hok
      obtain ⟨F', A', s, R'⟩ := R.frzS e (okSet_of hok).2
      exact ⟨B, F0, _, F', A', R', pS.mono s h⟩
    · exact h.elim
  · exact h.elim
theorem css_frz (i : Nat) {b : List Stmt} {k : Sl → RS} (h : CSs G Γ b k) : CSs G Γ b (sFrz i k) := fun X ok W tk => PSs.imp (h X ok W tk) fun D σ H h => frz_end h
theorem cs_frz (i : Nat) {b : Stmt} {k : Sl → RS} (h : CS G Γ b k) : CS G Γ b (sFrz i k) := fun X ok W tk => PS.imp (h X ok W tk) fun D σ H h => frz_end h
end

/-! ### a def from its body -/
def sl0 (n : Nat) (ds : List D) : Sl := ds.map (fun d => some (.v d)) ++ List.replicate (n - ds.length) none
def out : RS → R O
  | .next _ => .ok (.v .non)
  | .ret o _ => .ok o
  | .exc c _ => .exc c
  | _ => .stuck
def runD (n : Nat) (m : Sl → RS) (ar : Nat) (ds : List D) : R O := if ds.length = ar then out (m (sl0 n ds)) else .stuck
theorem ow0 {tg : Tg} {K : PySem.W.Frag} {mg : Str → Option Value} {F H : Hp} : ∀ {vs : List V} {ds : List D} {m : Nat}, RpA K mg F vs ds → OwS tg K mg F H (vs.map some ++ List.replicate m none) (ds.map (fun d => some (.v d)) ++ List.replicate m none) []
  | _, _, m, .nil => by
    induction m with
    | zero => exact .nil
    | succ m ih => rw [List.map_nil, List.map_nil, List.nil_append, List.nil_append, List.replicate_succ, List.replicate_succ]; exact .none (by simpa using ih)
  | _, _, m, .cons r t => OwS.some (A := []) (B := []) (.v r) (ow0 t)
theorem fnok_of {G : Gd} {Γ : Gm} {name : Str} {st : Stmt} {f : Addr} {fd : FuncData} {ps : List Str} {m : Sl → RS} {k : Nat} (F : Fun G.K name name st f fd) (S : FnScope Γ.N ps (defScope st)) (hsc : Γ.sc = defScope st)
    (hk : Γ.k = k) (c : CSs G Γ (defBody st) m) : FnOk G.P G.w G.K G.mg G.base (L2.CX G.P G.w) (k + 1) f fd ps (spV G (runD Γ.N.length m ps.length)) := by
  subst hk
  refine F.okX S (fun vs H Q E h => ?_) (fun cdv A outer s H vs Q E hr h => ?_)
  · obtain ⟨F0, ds, s0, r, h⟩ := h
    rw [r.length]
    by_cases e : ds.length = ps.length
    · exact e
    · have z : runD Γ.N.length m ps.length ds = .stuck := if_neg e
      rw [z] at h; exact h.elim
  · obtain ⟨F0, ds, s0, r, h⟩ := h
    have hlen : ds.length = ps.length := by
      by_cases e : ds.length = ps.length
      · exact e
      · have z : runD Γ.N.length m ps.length ds = .stuck := if_neg e
        rw [z] at h; exact h.elim
    have hrun : runD Γ.N.length m ps.length ds = out (m (sl0 Γ.N.length ds)) := if_pos hlen
    rw [hrun] at h
    refine ⟨tS G (fun cls d _ H' => E cls d H') m, c _ ⟨rfl, rfl, rfl, rfl, rfl, rfl, S.nd, hsc.symm, S.kind, fun _ => rfl, fun _ => hr, un_of hr, passes_of rfl, fun _ _ => .inl rfl, fun _ => ⟨rfl, rfl⟩⟩ _ (takes_of rfl rfl rfl rfl), ?_⟩
    refine ⟨⟨H, []⟩, F0, sl0 Γ.N.length ds, F0, [], ⟨?_, List.nodup_nil, s0, .refl _, .refl _, fun _ e _ => e, fun _ m => (nomatch m), fun _ m => nomatch m⟩, ?_⟩
    · unfold L2.start sl0
      rw [r.length]
      exact ow0 r
    · cases e : m (sl0 Γ.N.length ds) with
      | next L =>
        rw [e] at h
        rintro σ' H' ⟨F', A', s', R'⟩
        exact h .non H' (ret_v R' .non).ret
      | ret o L => rw [e] at h; exact fun v H' q => h v H' q.ret
      | exc c L =>
        rw [e] at h
        obtain ⟨C, eC, h⟩ := h
        exact ⟨C, eC, fun σ' H' ⟨F', A', s', R'⟩ => h H' R'.sb⟩
      | brk L => rw [e] at h; exact h.elim
      | cont L => rw [e] at h; exact h.elim
      | stuck => rw [e] at h; exact h.elim
theorem fnx_of {G : Gd} {Γ : Gm} {name : Str} {st : Stmt} {f : Addr} {fd : FuncData} {ps : List Str} {m : Sl → RS} {k : Nat} (F : Fun G.K name name st f fd) (hmg : G.mg name = some (.ref f)) (S : FnScope Γ.N ps (defScope st)) (hsc : Γ.sc = defScope st)
    (hb : Binds G.K fd ps []) (hk : Γ.k = k) (c : CSs G Γ (defBody st) m) : FnX G ⟨name, k + 1, ps.length, runD Γ.N.length m ps.length⟩ :=
  ⟨f, fd, ps, rfl, hmg, F.kp, hb, fnok_of F S hsc hk c⟩
/-- what the head tells of a def -/
structure DefF (K : PySem.W.Frag) (x : Str) (st : Stmt) : Prop where
  ex : ∃ (f : Addr) (oc : Value) (od an : Option Addr) (osl : Array (Option Value)) (kV doc pm cdv ct : Value), PySem.W.nsIn K mainGlobals x = some (some (.ref f)) ∧
    K.lookup f = some ⟨oc, od, .func (PySem.W.fnOf x x (defArgs st) (defBody st) (defScope st) .none kV doc pm an cdv ct), osl⟩ ∧ PySem.W.codeIn K cdv x = true ∧ PySem.W.keepIn K (.ref f) = true
theorem DefF.fn {K : PySem.W.Frag} {x : Str} {st : Stmt} (D : DefF K x st) : ∃ f fd, PySem.W.nsIn K mainGlobals x = some (some (.ref f)) ∧ Fun K x x st f fd ∧
    ∃ (kV doc pm : Value) (an : Option Addr) (cdv ct : Value), fd = PySem.W.fnOf x x (defArgs st) (defBody st) (defScope st) .none kV doc pm an cdv ct := by
  obtain ⟨f, oc, od, an, osl, kV, doc, pm, cdv, ct, h1, h2, h3, h4⟩ := D.ex
  exact ⟨f, _, h1, fun_mk h2 h3 h4, _, _, _, _, _, _, rfl⟩
/-- arguments bind to parameters, one for one -/
def BindB (st : Stmt) (x : Str) (ps : List Str) : Prop := ∀ (kV doc pm : Value) (an : Option Addr) (cdv ct : Value) (us : List Value), us.length = ps.length → bindArgs (PySem.W.fnOf x x (defArgs st) (defBody st) (defScope st) .none kV doc pm an cdv ct) ⟨us, []⟩ = pure (ps.zip us)
/-- a def of the text, over whatever module map -/
theorem DefF.fnx {G : Gd} {h : Heap} {Γ : Gm} {x : Str} {st : Stmt} {ps : List Str} {m : Sl → RS} {k : Nat} (D : DefF G.K x st) (X : G.K.In h) (N : h.Ns mainGlobals G.mg) (S : FnScope Γ.N ps (defScope st)) (hsc : Γ.sc = defScope st)
    (hb : BindB st x ps) (hk : Γ.k = k) (c : CSs G Γ (defBody st) m) : FnX G ⟨x, k + 1, ps.length, runD Γ.N.length m ps.length⟩ := by
  obtain ⟨f, fd, h1, F, _⟩ := D.fn
  exact fnx_of F (PySem.W.mg_of X N h1) S hsc (F.binds hb) hk c
/-- the law's own promise -/
def spLaw (K : PySem.W.Frag) (n : Nat) : Sp := fun vs H Q _ => ∃ (a : Addr) (ns : List Int), vs = [.ref a] ∧ SqL K H a (ns.map V.int) ∧ ns.length ≤ n ∧ ∀ H', Q (.bl true) H'
theorem ints_rp {K : PySem.W.Frag} {mg : Str → Option Value} {F : Hp} : ∀ ns : List Int, RpA K mg F (ns.map V.int) (ns.map D.int)
  | [] => .nil
  | _ :: r => .cons (.int _) (ints_rp r)
theorem law_end {G : Gd} {k n : Nat} {f : Addr} {fd : FuncData} {x : Str} {fn : List D → R O} (F : FnOk G.P G.w G.K G.mg G.base (L2.CX G.P G.w) k f fd [x] (spV G fn)) (h : ∀ ns : List Int, ns.length ≤ n → fn [.lst (ns.map .int)] = .ok (.v (.bl true))) :
    FnOk G.P G.w G.K G.mg G.base (L2.CX G.P G.w) k f fd [x] (spLaw G.K n) := F.imp fun vs H Q E ⟨a, ns, e, hs, hl, q⟩ => by
  subst e
  refine ⟨H, [.lst (ns.map .int)], .refl _, .cons (.lst hs (ints_rp ns)) .nil, ?_⟩
  rw [h ns hl]
  rintro v H' ⟨F, A, s1, s2, s3, s4, ow, nC, fC⟩
  cases ow with
  | v r => cases r; exact q H'
theorem cx_no {P : Program} {w : World} {H : Hp} {s : Shared} {e : Value} {s' : Shared} : L2.CX P w [] H s (fun _ _ _ => False) e s' → False := by
  rintro ⟨a, B, H', cls, d, _, _, _, _, _, _, _, z⟩
  exact z
end Eng

end
section
set_option Elab.async false
set_option linter.all false
set_option maxRecDepth 100000
set_option maxHeartbeats 4000000
/-! the engine, part 10: names in short, methods of texts -/
namespace Eng
open PySem PySem.Spec PyProof.Rows L2
section
variable {G : Gd} {Γ : Gm}
/-- a name that stands in a slot -/
def varB (Γ : Gm) (i : Nat) (x : Str) : Bool := decide (Γ.N[i]? = some x) && visB Γ.sc x && !(x == ("__debug__" : Str)) && !(x == ("__classdict__" : Str))
theorem ce_v {i : Nat} {x : Str} {pos : Pos} (h : varB Γ i x = true) : CE G Γ (.Name x pos) (mVar i) := by
  unfold varB at h
  obtain ⟨h1, h4⟩ := and2 h
  obtain ⟨h1, h3⟩ := and2 h1
  obtain ⟨h1, h2⟩ := and2 h1
  exact ce_var (of_decide_eq_true h1) h2 (by simpa using h3) (by simpa using h4)
/-- a name that is stored -/
def stB (Γ : Gm) (i : Nat) (x : Str) : Bool := decide (Γ.N[i]? = some x) && locB Γ.sc x && Γ.st x
theorem cg_n {i : Nat} {x : Str} {pos : Pos} (h : stB Γ i x = true) : CG G Γ (.Name x pos) [i] (put i) := by
  unfold stB at h
  obtain ⟨h1, h3⟩ := and2 h
  obtain ⟨h1, h2⟩ := and2 h1
  exact cg_name (of_decide_eq_true h1) h2 h3
theorem cs_s {i : Nat} {x : Str} {e : Expr} {m : Sl → R D} {p pos : Pos} (hs : stB Γ i x = true) (hb : (setOk e && !swapB Γ.sc x p e) = true) (h : CE G Γ e m) : CS G Γ (.Assign [.Name x p] e pos) (sSet i m) := by
  unfold stB at hs
  obtain ⟨h1, h3⟩ := and2 hs
  obtain ⟨h1, h2⟩ := and2 h1
  exact cs_set (of_decide_eq_true h1) h2 h3 (and2 hb).1 (by simpa using (and2 hb).2) h
theorem cs_so {i : Nat} {x : Str} {e : Expr} {m : Sl → R O} {p pos : Pos} (hs : stB Γ i x = true) (hb : (setOk e && !swapB Γ.sc x p e) = true) (h : CO G Γ e m) : CS G Γ (.Assign [.Name x p] e pos) (sSetO i m) := by
  unfold stB at hs
  obtain ⟨h1, h3⟩ := and2 hs
  obtain ⟨h1, h2⟩ := and2 h1
  exact cs_setO (of_decide_eq_true h1) h2 h3 (and2 hb).1 (by simpa using (and2 hb).2) h
theorem cs_lcO {elt tg iter : Expr} {ifs : List Expr} {scope : Scope} {own : List (Str × Nat)} {ws : List Nat} {p pos spos : Pos} {it : Sl → R (List D)} {gm : D → Sl → Option Sl} {tst : Sl → R Bool} {el : Sl → R D} {i : Nat} {y : Str}
    (hs : stB Γ i y = true) (hsw : swapB Γ.sc y p (.ListComp elt [⟨tg, iter, ifs, 0⟩] scope pos) = true)
    (hi : CI G Γ tg iter it) (hb : blkC Γ.N Γ.sc scope own = true) (hsub : ∀ i ∈ ws, i ∈ own.map (·.2)) (hg : CG G (Γ.blk scope) tg ws gm) (ht : CTs G (Γ.blk scope) ifs tst) (he : CE G (Γ.blk scope) elt el) (hn : (noSet iter && Γ.cm) = true) :
    CS G Γ (.Assign [.Name y p] (.ListComp elt [⟨tg, iter, ifs, 0⟩] scope pos) spos) (sSetO i (mLc it (own.map (·.2)) gm tst el)) := by
  unfold stB at hs
  exact cs_setLcO (of_decide_eq_true (and2 (and2 hs).1).1) hsw hi hb hsub hg ht he hn
theorem cs_lcV {elt tg iter : Expr} {ifs : List Expr} {scope : Scope} {own : List (Str × Nat)} {ws : List Nat} {p pos spos : Pos} {it : Sl → R (List D)} {gm : D → Sl → Option Sl} {tst : Sl → R Bool} {el : Sl → R D} {i : Nat} {y : Str}
    (hs : stB Γ i y = true) (hsw : swapB Γ.sc y p (.ListComp elt [⟨tg, iter, ifs, 0⟩] scope pos) = true)
    (hi : CI G Γ tg iter it) (hb : blkC Γ.N Γ.sc scope own = true) (hsub : ∀ i ∈ ws, i ∈ own.map (·.2)) (hg : CG G (Γ.blk scope) tg ws gm) (ht : CTs G (Γ.blk scope) ifs tst) (he : CE G (Γ.blk scope) elt el) (hn : (noSet iter && Γ.cm) = true) :
    CS G Γ (.Assign [.Name y p] (.ListComp elt [⟨tg, iter, ifs, 0⟩] scope pos) spos) (sSet i (mFr (mLc it (own.map (·.2)) gm tst el))) := by
  unfold stB at hs
  exact cs_setLcV (of_decide_eq_true (and2 (and2 hs).1).1) hsw hi hb hsub hg ht he hn
theorem cs_retXn {i : Nat} {x : Str} {p pos : Pos} (h : varB Γ i x = true) : CS G Γ (.Return (some (.Name x p)) pos) (sRetX i) := by
  unfold varB at h
  obtain ⟨h1, h4⟩ := and2 h
  obtain ⟨h1, h3⟩ := and2 h1
  obtain ⟨h1, h2⟩ := and2 h1
  exact cs_retX (of_decide_eq_true h1) h2 (by simpa using h3) (by simpa using h4)
theorem cs_ra (gr : Γ.Gr G) {c m : Str} {j : Nat} {p p2 p3 pos : Pos} (h : (Γ.cm && decide (c ∈ Γ.E) && glB Γ.sc c && !(c == ("__debug__" : Str))) = true) : CS G Γ (.Raise (some (.Call (.Name c p) [.Constant (.str m) j p2] [] p3)) none pos) (sRaise c) :=
  cs_raise gr (and2 (and2 (and2 h).1).1).1 (of_decide_eq_true (and2 (and2 (and2 h).1).1).2) (and2 (and2 h).1).2 (by simpa using (and2 h).2)
/-! ### methods of texts -/
def attrB : Expr → Bool | .Call (.Name _ _) [] [] _ => false | _ => true
theorem attr_base {o : Expr} (h : attrB o = true) (attr : Str) (env : Env) (whole : Sem Value) : attributeBase o attr env whole = whole := by
  unfold attributeBase
  split
  · cases h
  · rfl
def asS : D → Option Str | .str i => some i | _ => none
theorem Rp.str_inv {K : PySem.W.Frag} {mg : Str → Option Value} {F : Hp} {v : V} {d : D} {b : Str} (r : Rp K mg F v d) (e : asS d = some b) : v = .str b := by
  cases r <;> first | (cases e; done) | (injection e with e; subst e; rfl)
def rM1 (G : Gd) (f : D → D → Option D) : V → List V → Hp → VK → Prop := fun x xs H Q => ∃ y, xs = [y] ∧ rV G f x y H Q
def Mt1 (G : Gd) (f : D → D → Option D) (id : String) : Prop := ∀ (X : Cx) (Γ : Gm), Γ.Ok G X → MtR X id (rM1 G f)
def mS1 (f : D → D → Option D) (a b : Sl → R D) : Sl → R D := fun L => (a L).bind fun x => (lift (asS x)).bind fun _ => (b L).bind fun y => lift (f x y)
theorem ce_s1 {id : String} {name : Str} {f : D → D → Option D} {o e : Expr} {ma mb : Sl → R D} {apos pos : Pos} (slot : Slot "str" name id) (ty : typeOf (.builtin id) = pure (.type "method_descriptor")) (rule : Mt1 G f id)
    (ha : attrB o = true) (hl : (apos.endLine == pos.line) = true) (hs : nst e = true) (ho : CE G Γ o ma) (he : CE G Γ e mb) : CE G Γ (.Call (.Attribute o name apos) [e] [] pos) (mS1 f ma mb) := by
  refine fun X ok W tk => PE.imp (pe_m1 slot ty (rule X Γ ok) (ho X ok W tk) (he X ok W tk) (star1 hs) (attr_base ha _ _ _) hl) fun σ H Q h => ?_
  obtain ⟨B, F0, L, F, A, R, h⟩ := h
  refine ⟨B, F0, L, F, A, R, (pG.bind h).imp R fun d F1 H1 s1 R1 g1 h1 v rv => ?_⟩
  cases ed : asS d with
  | none => rw [ed] at h1; exact h1.elim
  | some z =>
    rw [ed] at h1
    have h1 : pG G W σ F1 H1 ((mb L).bind fun y => lift (f d y)) (fun d F' H' => ∀ v, Rp G.K G.mg F' v d → Q v H') := h1
    refine ⟨⟨z, rv.str_inv ed⟩, B, F0, L, F1, A, R1, (pG.bind h1).imp R1 fun d2 F2 H2 s2 R2 g2 h2 v2 rv2 => ?_⟩
    cases e2 : f d d2 with
    | none => rw [e2] at h2; exact h2.elim
    | some r =>
      rw [e2] at h2
      exact ⟨v2, rfl, F2, d, d2, r, R2.sf, rv.mono s2, rv2, e2, fun v F' H' g rr => h2 F' H' g v rr⟩
/-- sep.join(xs) -/
def joinOk (a : Str) (ys : List Str) : Bool := decide ((ys.map (·.length)).sum + ys.length * a.length ≤ 16777216)
def fJoin : D → D → Option D
  | .str a, .lst ds => (strsD ds).bind fun ys => if joinOk a ys = true then some (.str (Txt.join a ys)) else none
  | .str a, .tup ds => (strsD ds).bind fun ys => if joinOk a ys = true then some (.str (Txt.join a ys)) else none
  | _, _ => none
theorem m_join : Mt1 G fJoin "str.join" := by
  intro X Γ ok pins s σ H x xs v us Q I rx rs h
  obtain ⟨y, rfl, F, dx, dy, d, sf, hx, hy, e, h⟩ := h
  unfold fJoin at e
  split at e
  · obtain ⟨ys, e1, e2⟩ := bind_some e
    split at e2
    · rename_i hz
      cases e2
      cases hx
      cases hy with
      | lst h1 r1 =>
        obtain rfl := r1.strsD e1
        exact mt_join pins s σ H _ _ v us Q I rx rs ⟨_, _, ys, rfl, rfl, .inl (by rw [ok.K]; exact Same.seq sf h1), of_decide_eq_true hz, h _ F H (.refl sf) (.str _)⟩
    · cases e2
  · obtain ⟨ys, e1, e2⟩ := bind_some e
    split at e2
    · rename_i hz
      cases e2
      cases hx
      cases hy with
      | tup h1 r1 =>
        obtain rfl := r1.strsD e1
        exact mt_join pins s σ H _ _ v us Q I rx rs ⟨_, _, ys, rfl, rfl, .inr (by rw [ok.K]; exact sf.tq h1), of_decide_eq_true hz, h _ F H (.refl sf) (.str _)⟩
    · cases e2
  · cases e
theorem ce_join {o e : Expr} {ma mb : Sl → R D} {apos pos : Pos} (hc : (attrB o && (apos.endLine == pos.line) && nst e) = true) (ho : CE G Γ o ma) (he : CE G Γ e mb) : CE G Γ (.Call (.Attribute o "join" apos) [e] [] pos) (mS1 fJoin ma mb) :=
  ce_s1 F.slot_str_join F.type_str_join m_join (and2 (and2 hc).1).1 (and2 (and2 hc).1).2 (and2 hc).2 ho he
/-! ### short forms -/
def bltB (Γ : Gm) (x : Str) (a : Expr) (es : List Expr) : Bool := Γ.cm && decide (x ∈ Γ.X) && glB Γ.sc x && nst a && es.all nst && decide (x ≠ ("__name__" : Str)) && !(x == ("__debug__" : Str))
theorem bltB_of {x : Str} {a : Expr} {es : List Expr} (h : bltB Γ x a es = true) : x ∈ Γ.X ∧ glB Γ.sc x = true ∧ nst a = true ∧ es.all nst = true ∧ x ≠ "__name__" ∧ (x == ("__debug__" : Str)) = false ∧ Γ.cm = true := by
  unfold bltB at h
  obtain ⟨h, h6⟩ := and2 h
  obtain ⟨h, h5⟩ := and2 h
  obtain ⟨h, h4⟩ := and2 h
  obtain ⟨h, h3⟩ := and2 h
  obtain ⟨h, h2⟩ := and2 h
  obtain ⟨h0, h1⟩ := and2 h
  exact ⟨of_decide_eq_true h1, h2, h3, h4, of_decide_eq_true h5, by simpa using h6, h0⟩
theorem ce_bn (gr : Γ.Gr G) {f : List D → Option D} {x : Str} {id : String} {a : Expr} {es : List Expr} {m : Sl → R (List D)} {p pos : Pos} (hc : Blt G f (.builtin id)) (hv : bootBuiltins x = some (.builtin id)) (h : bltB Γ x a es = true) (ha : CA G Γ (a :: es) m) :
    CE G Γ (.Call (.Name x p) (a :: es) [] pos) (mF f m) := by
  obtain ⟨h1, h2, h3, h4, h5, h6, h7⟩ := bltB_of h
  exact ce_blt gr hc h1 hv h2 h3 h4 h5 h6 h7 ha
theorem ce_tn (gr : Γ.Gr G) {f : List D → Option D} {x : Str} {id : String} {a : Expr} {es : List Expr} {m : Sl → R (List D)} {p pos : Pos} (hc : Blt G f (.type id)) (hv : bootBuiltins x = some (.type id)) (h : bltB Γ x a es = true) (ha : CA G Γ (a :: es) m) :
    CE G Γ (.Call (.Name x p) (a :: es) [] pos) (mF f m) := by
  obtain ⟨h1, h2, h3, h4, h5, h6, h7⟩ := bltB_of h
  exact ce_ty gr hc h1 hv h2 h3 h4 h5 h6 h7 ha
def callB (Γ : Gm) (e : FE) (a : Expr) (es : List Expr) : Bool := decide (Γ.cm = true ∧ e.k ≤ Γ.k) && glB Γ.sc e.name && nst a && es.all nst && !(e.name == ("__debug__" : Str))
theorem co_cn (gr : Γ.Gr G) {e : FE} {a : Expr} {es : List Expr} {m : Sl → R (List D)} {p pos : Pos} (hm : e ∈ Γ.T) (h : callB Γ e a es = true) (ha : CA G Γ (a :: es) m) : CO G Γ (.Call (.Name e.name p) (a :: es) [] pos) (mCall e.fn m) := by
  unfold callB at h
  obtain ⟨h, h5⟩ := and2 h
  obtain ⟨h, h4⟩ := and2 h
  obtain ⟨h, h3⟩ := and2 h
  obtain ⟨h1, h2⟩ := and2 h
  exact co_call gr hm (of_decide_eq_true h1) h2 h3 h4 (by simpa using h5) ha
def isiB (Γ : Gm) (x : Str) (a : Expr) : Bool := decide (("isinstance" : Str) ∈ Γ.X) && decide (x ∈ Γ.X) && glB Γ.sc "isinstance" && glB Γ.sc x && nst a && decide (x ≠ ("__name__" : Str)) && !(x == ("__debug__" : Str))
theorem ce_isn (gr : Γ.Gr G) {x : Str} {t : String} {a : Expr} {m : Sl → R D} {p p2 pos : Pos} (hv : bootBuiltins x = some (.type t)) (h : isiB Γ x a = true) (ha : CE G Γ a m) : CE G Γ (.Call (.Name "isinstance" p) [a, .Name x p2] [] pos) (m1 (fIsi t) m) := by
  unfold isiB at h
  obtain ⟨h, h7⟩ := and2 h
  obtain ⟨h, h6⟩ := and2 h
  obtain ⟨h, h5⟩ := and2 h
  obtain ⟨h, h4⟩ := and2 h
  obtain ⟨h, h3⟩ := and2 h
  obtain ⟨h1, h2⟩ := and2 h
  exact ce_isi gr (of_decide_eq_true h1) (of_decide_eq_true h2) h3 h4 hv (of_decide_eq_true h6) (by simpa using h7) h5 ha
theorem ce_gl (gr : Γ.Gr G) {x : Str} {d : D} {pos : Pos} (hm : (x, d) ∈ Γ.C) (hg : (glB Γ.sc x && !(x == ("__debug__" : Str))) = true) : CE G Γ (.Name x pos) (mC d) := ce_glob gr hm (and2 hg).1 (by simpa using (and2 hg).2)
def rngB (Γ : Gm) (x : Str) (es : List Expr) : Bool := decide (x ∈ Γ.X) && glB Γ.sc x && es.all nst
theorem ci_r1 (gr : Γ.Gr G) {tg a : Expr} {m : Sl → R D} {p pos : Pos} (h : rngB Γ "range" [a] = true) (ha : CE G Γ a m) : CI G Γ tg (.Call (.Name "range" p) [a] [] pos) (mRg1 m) := by
  unfold rngB at h
  obtain ⟨h, h3⟩ := and2 h
  obtain ⟨h1, h2⟩ := and2 h
  exact ci_rng1 gr (of_decide_eq_true h1) h2 (by simpa using h3) ha
theorem ci_r2 (gr : Γ.Gr G) {tg a b : Expr} {ma mb : Sl → R D} {p pos : Pos} (h : rngB Γ "range" [a, b] = true) (ha : CE G Γ a ma) (hb : CE G Γ b mb) : CI G Γ tg (.Call (.Name "range" p) [a, b] [] pos) (mRg2 ma mb) := by
  unfold rngB at h
  obtain ⟨h, h3⟩ := and2 h
  obtain ⟨h1, h2⟩ := and2 h
  simp at h3
  exact ci_rng2 gr (of_decide_eq_true h1) h2 h3.1 h3.2 ha hb
theorem ci_en (gr : Γ.Gr G) {elts : List Expr} {kk : Nat} {tpos : Pos} {a : Expr} {m : Sl → R D} {p pos : Pos} (h : rngB Γ "enumerate" [a] = true) (ha : CE G Γ a m) : CI G Γ (.Tuple elts kk tpos) (.Call (.Name "enumerate" p) [a] [] pos) (mEn m) := by
  unfold rngB at h
  obtain ⟨h, h3⟩ := and2 h
  obtain ⟨h1, h2⟩ := and2 h
  exact ci_enum gr (of_decide_eq_true h1) h2 (by simpa using h3) ha
theorem ci_z (gr : Γ.Gr G) {elts : List Expr} {kk : Nat} {tpos : Pos} {a b : Expr} {ma mb : Sl → R D} {p pos : Pos} (h : rngB Γ "zip" [a, b] = true) (ha : CE G Γ a ma) (hb : CE G Γ b mb) : CI G Γ (.Tuple elts kk tpos) (.Call (.Name "zip" p) [a, b] [] pos) (mZip ma mb) := by
  unfold rngB at h
  obtain ⟨h, h3⟩ := and2 h
  obtain ⟨h1, h2⟩ := and2 h
  simp at h3
  exact ci_zip gr (of_decide_eq_true h1) h2 h3.1 h3.2 ha hb
end
end Eng

end
section
set_option Elab.async false
set_option linter.all false
set_option maxRecDepth 100000
set_option maxHeartbeats 4000000
/-! the engine, part 11: lists and dicts that change -/
namespace Eng
open PySem PySem.Spec PyProof.Rows L2
section
variable {G : Gd} {Γ : Gm} {W : WX} {B : Bd} {F0 F H : Hp} {L : Sl} {A : List Addr} {σ : L2.St}
def pinO : O → Bool | .mi p _ _ => p | .pin _ => true | _ => false
theorem isPin_at {i : Nat} {o : O} (e : L[i]? = some (some o)) : isPin L i = pinO o := by
  unfold isPin pinO
  rw [e]
  cases o <;> rfl
theorem pn_mut {i : Nat} {o o' : O} {P : List (Nat × Addr)} (e : L[i]? = some (some o)) (ho : pinO o' = pinO o) (h : ∀ q ∈ P, σ[q.1]? = some (some (.ref q.2)) ∧ isPin L q.1 = true) : ∀ q ∈ P, σ[q.1]? = some (some (.ref q.2)) ∧ isPin (L.set i (some o')) q.1 = true := fun q m => by
  obtain ⟨h1, h2⟩ := h q m
  refine ⟨h1, ?_⟩
  by_cases z : i = q.1
  · subst z
    have hi := (List.getElem?_eq_some_iff.mp e).1
    rw [isPin_at (o := o') (by rw [List.getElem?_set_self hi]), ho, ← isPin_at e]; exact h2
  · unfold isPin at h2 ⊢
    rw [List.getElem?_set_ne z]; exact h2
/-- a slot's own thing looked at, and the state behind its change -/
theorem Rl.mut (R : Rl G B F0 L F A σ H) {i : Nat} {o : O} (e : L[i]? = some (some o)) : ∃ v Ai, σ[i]? = some (some v) ∧ Ow G.tg G.K G.mg F H v o Ai ∧ (∀ a ∈ Ai, a ∈ A) ∧ Ai.Nodup ∧
    ∀ (H' : Hp) (o' : O) (Ai' : List Addr), pinO o' = pinO o → (∀ x, x ∉ Ai → (∃ u, H x = some u) → H' x = H x) → Ow G.tg G.K G.mg F H' v o' Ai' → Ai'.Nodup → (∀ a ∈ Ai', a ∈ Ai ∨ (F a = none ∧ B.h a = none ∧ a ∉ A)) → ∃ A', Rl G B F0 (L.set i (some o')) F A' σ H' := by
  obtain ⟨v, A1, Ai, A2, h1, h2, h3, h4⟩ := R.os.get e
  have nd := R.nd
  rw [h3] at nd
  have n1 := List.nodup_append.mp nd
  have n2 := List.nodup_append.mp n1.1
  have hi : ∀ a ∈ Ai, a ∈ A := fun a m => by rw [h3]; simp [m]
  have oth : ∀ a, a ∈ A1 ∨ a ∈ A2 → a ∈ A ∧ a ∉ Ai := fun a m => by
    refine ⟨by rw [h3]; rcases m with m | m <;> simp [m], fun ha => ?_⟩
    rcases m with m | m
    · exact n2.2.2 a m a ha rfl
    · exact n1.2.2 a (List.mem_append_right _ ha) a m rfl
  refine ⟨v, Ai, h1, h2, hi, n2.2.1, fun H' o' Ai' hpo hk ow nd' hA => ?_⟩
  have q := h4 F H' v o' Ai' (.refl _) (fun a m => hk a (oth a m).2 (R.os.tracked a (oth a m).1)) ow
  rw [get_set h1] at q
  have notA : ∀ a, F a ≠ none → a ∉ Ai := fun a hf m => hf (R.fa a (hi a m)).1
  have notB : ∀ a, B.h a ≠ none → a ∉ Ai := fun a hf m => hf (R.fa a (hi a m)).2
  have sep : ∀ a ∈ Ai', ∀ b, b ∈ A1 ∨ b ∈ A2 → a ≠ b := fun a ha b hb z => by
    subst z
    rcases hA a ha with h | h
    · exact (oth a hb).2 h
    · exact h.2.2 (oth a hb).1
  refine ⟨A1 ++ Ai' ++ A2, q, ?_, fun a u e => ?_, R.f0, fun a u e => ?_, R.fb, fun a m => ?_, pn_mut e hpo R.pn⟩
  · refine List.nodup_append.mpr ⟨List.nodup_append.mpr ⟨n2.1, nd', fun a ha b hb z => sep b hb a (.inl ha) z.symm⟩, n1.2.1, fun a ha b hb z => ?_⟩
    rcases List.mem_append.mp ha with ha | ha
    · exact n1.2.2 a (List.mem_append_left _ ha) b hb z
    · exact sep a ha b (.inr hb) z
  · have hu := R.sf a u e
    rw [hk a (notA a (by rw [e]; intro z; cases z)) ⟨u, hu⟩]; exact hu
  · have hu := R.sb a u e
    rw [hk a (notB a (by rw [e]; intro z; cases z)) ⟨u, hu⟩]; exact hu
  · rcases List.mem_append.mp m with m | m
    · rcases List.mem_append.mp m with m | m
      · exact R.fa a (oth a (.inl m)).1
      · rcases hA a m with h | h
        · exact R.fa a (hi a h)
        · exact ⟨h.1, h.2.1⟩
    · exact R.fa a (oth a (.inr m)).1
/-- behind it the slot's value stands where it stood -/
def upO (H : Hp) (a : Addr) (u : HO) : Hp := upd H a u
/-! ### x.append(e) -/
def sApp (i : Nat) (m : Sl → R O) : Sl → RS := fun L => match L[i]? with
  | some (some (.ml _)) => sBind m (fun o L => match L[i]? with | some (some (.ml os)) => if os.length < sizeLine then .next (L.set i (some (.ml (os ++ [o])))) else .stuck | _ => .stuck) L
  | _ => .stuck
theorem OwA.append {tg : Tg} {K : PySem.W.Frag} {mg : Str → Option Value} {F H : Hp} : ∀ {vs ws : List V} {os ps : List O} {A B : List Addr}, OwA tg K mg F H vs os A → OwA tg K mg F H ws ps B → OwA tg K mg F H (vs ++ ws) (os ++ ps) (A ++ B)
  | _, _, _, _, _, _, .nil, s => s
  | _, _, _, _, _, _, .cons r t, s => by rw [List.append_assoc]; exact .cons r (OwA.append t s)
theorem OwA.length {tg : Tg} {K : PySem.W.Frag} {mg : Str → Option Value} {F H : Hp} : ∀ {vs : List V} {os : List O} {A : List Addr}, OwA tg K mg F H vs os A → vs.length = os.length
  | _, _, _, .nil => rfl
  | _, _, _, .cons _ t => congrArg (· + 1) (OwA.length t)
def mthB (Γ : Gm) (i : Nat) (x : Str) (e : Expr) (apos cpos : Pos) : Bool := varB Γ i x && nst e && (apos.endLine == cpos.line)
theorem few1 {e : Expr} {X : Cx} {cpos : Pos} (h : nst e = true) : ((backTo cpos (starEach (e :: []) X.env)).all (fun x => !x.1) && (backToKw cpos (keywordEach [] X.env)).all (fun x => x.1.isSome)
    && decide ((e :: ([] : List Expr)).length + ([] : List Keyword).length + (if ([] : List Keyword).isEmpty then 0 else 1) < 30)) = true := by
  rw [star1 h]; rfl
theorem cs_app {i : Nat} {x : Str} {e : Expr} {m : Sl → R O} {p apos cpos pos : Pos} (hb : mthB Γ i x e apos cpos = true) (he : CO G Γ e m) : CS G Γ (.Expr (.Call (.Attribute (.Name x p) "append" apos) [e] [] cpos) pos) (sApp i m) := by
  unfold mthB at hb
  obtain ⟨hb, hl⟩ := and2 hb
  obtain ⟨hb, hn⟩ := and2 hb
  unfold varB at hb
  obtain ⟨h1, h4⟩ := and2 hb
  obtain ⟨h1, h3⟩ := and2 h1
  obtain ⟨h1, h2⟩ := and2 h1
  refine fun X ok W tk => PS.imp (ps_expr (pe_bm PySem.F.plainAttrs_list PySem.F.slot_list_append PySem.F.type_list_append mt_append
    (pe_var (i := i) (by rw [ok.N]; exact of_decide_eq_true h1) (by rw [ok.sc]; exact vis_of h2) (by simpa using h3) (by simpa using h4)) (pa_cons (he X ok W tk) pa_nil (star_cons hn)) (attr_base rfl _ _ _) (few1 hn) hl (star_cons hn) (star_any (es := []) rfl)) (sw_none rfl _ _ _)) fun D σ H h => ?_
  obtain ⟨B, F0, L, F, A, R, h⟩ := h
  unfold sApp at h
  split at h
  · rename_i os0 e0
    obtain ⟨v0, Ai0, g1, g2, _⟩ := R.mut e0
    cases g2 with
    | @ml a us _ A' hH ra =>
      refine ⟨_, g1, .inl ⟨rfl, _, .inl (.inl hH)⟩, B, F0, L, F, A, R, (pS.first R h).imp R fun o F1 H1 s1 R1 gr1 hc v C ow nC fC => ?_⟩
      rw [e0] at hc
      dsimp only at hc
      split at hc
      · rename_i hz
        obtain ⟨v1, Ai, k1, k2, k3, k4, k5⟩ := R1.mut e0
        rw [g1] at k1; cases k1
        cases k2 with
        | @ml _ us1 _ A1 hH1 ra1 =>
          refine ⟨a, us1, v, rfl, rfl, hH1, by rw [ra1.length]; exact hz, ?_⟩
          have fresh : ∀ c ∈ C, c ∉ A := fun c hc m => by
            obtain ⟨u, e⟩ := R.os.tracked c m
            rw [(fC c hc).2] at e; cases e
          have haA := k3 a List.mem_cons_self
          obtain ⟨A2, R2⟩ := k5 (upd H1 a (.lst (us1 ++ [v]))) (.ml (os0 ++ [o])) (a :: (A1 ++ (C ++ []))) rfl
            (fun x hx _ => upd_ne (fun z => hx (by rw [z]; exact List.mem_cons_self)))
            (.ml upd_same (OwA.append (OwA.mono (.refl _) (fun x m => upd_ne (fun z => (List.nodup_cons.mp k4).1 (z ▸ m))) ra1) (.cons (Ow.mono (.refl _) (fun x m => upd_ne (fun z => fresh x m (z ▸ haA))) ow) .nil)))
            (by
              rw [List.append_nil]
              obtain ⟨q1, q2⟩ := List.nodup_cons.mp k4
              refine List.nodup_cons.mpr ⟨fun m => ?_, List.nodup_append.mpr ⟨q2, nC, fun x hx y hy z => fresh y hy (z ▸ k3 x (List.mem_cons_of_mem _ hx))⟩⟩
              rcases List.mem_append.mp m with m | m
              · exact q1 m
              · exact fresh a m haA)
            (fun x m => by
              rcases List.mem_cons.mp m with rfl | m
              · exact .inl List.mem_cons_self
              rw [List.append_nil] at m
              rcases List.mem_append.mp m with m | m
              · exact .inl (List.mem_cons_of_mem _ m)
              · exact .inr ⟨(fC x m).1, R.sb.free (fC x m).2, fresh x m⟩)
          exact hc _ _ ⟨F1, A2, .refl _, R2⟩
      · exact hc.elim
  · exact h.elim
/-! ### x.reverse(), x.clear() -/
theorem OwA.reverse {tg : Tg} {K : PySem.W.Frag} {mg : Str → Option Value} {F H : Hp} : ∀ {vs : List V} {os : List O} {A : List Addr}, OwA tg K mg F H vs os A → ∃ B, OwA tg K mg F H vs.reverse os.reverse B ∧ (∀ a, a ∈ B ↔ a ∈ A) ∧ (A.Nodup → B.Nodup)
  | _, _, _, .nil => ⟨[], .nil, fun _ => Iff.rfl, id⟩
  | _, _, _, .cons (v := v) (o := o) (A := A) (B := B) r t => by
    obtain ⟨C, h1, h2, h3⟩ := OwA.reverse t
    refine ⟨C ++ (A ++ []), by rw [List.reverse_cons, List.reverse_cons]; exact h1.append (.cons r .nil), fun a => by simp [h2]; exact Or.comm, fun n => ?_⟩
    obtain ⟨n1, n2, n3⟩ := List.nodup_append.mp n
    rw [List.append_nil]
    exact List.nodup_append.mpr ⟨h3 n2, n1, fun x hx y hy z => n3 y hy x ((h2 x).mp hx) z.symm⟩
def sM0 (i : Nat) (f : List O → List O) : Sl → RS := fun L => match L[i]? with
  | some (some (.ml os)) => .next (L.set i (some (.ml (f os))))
  | _ => .stuck
def mth0B (Γ : Gm) (i : Nat) (x : Str) (apos cpos : Pos) : Bool := varB Γ i x && (apos.endLine == cpos.line)
theorem cs_rev {i : Nat} {x : Str} {p apos cpos pos : Pos} (hb : mth0B Γ i x apos cpos = true) : CS G Γ (.Expr (.Call (.Attribute (.Name x p) "reverse" apos) [] [] cpos) pos) (sM0 i List.reverse) := by
  unfold mth0B at hb
  obtain ⟨hb, hl⟩ := and2 hb
  unfold varB at hb
  obtain ⟨h1, h4⟩ := and2 hb
  obtain ⟨h1, h3⟩ := and2 h1
  obtain ⟨h1, h2⟩ := and2 h1
  refine fun X ok W tk => PS.imp (ps_expr (pe_bm0 PySem.F.plainAttrs_list PySem.F.slot_list_reverse PySem.F.type_list_reverse mt_reverse
    (pe_var (i := i) (by rw [ok.N]; exact of_decide_eq_true h1) (by rw [ok.sc]; exact vis_of h2) (by simpa using h3) (by simpa using h4)) (attr_base rfl _ _ _) hl) (sw_none rfl _ _ _)) fun D σ H h => ?_
  obtain ⟨B, F0, L, F, A, R, h⟩ := h
  unfold sM0 at h
  split at h
  · rename_i os0 e0
    obtain ⟨v0, Ai0, g1, g2, k3, k4, k5⟩ := R.mut e0
    cases g2 with
    | @ml a us _ A' hH ra =>
      obtain ⟨C, r1, r2, r3⟩ := ra.reverse
      obtain ⟨q1, q2⟩ := List.nodup_cons.mp k4
      refine ⟨_, g1, .inl ⟨rfl, _, .inl (.inl hH)⟩, a, us, rfl, rfl, hH, ?_⟩
      obtain ⟨A2, R2⟩ := k5 (upd H a (.lst us.reverse)) (.ml os0.reverse) (a :: C) rfl (fun x hx _ => upd_ne (fun z => hx (by rw [z]; exact List.mem_cons_self)))
        (.ml upd_same (OwA.mono (.refl _) (fun x m => upd_ne (fun z => q1 (z ▸ (r2 x).mp m))) r1)) (List.nodup_cons.mpr ⟨fun m => q1 ((r2 a).mp m), r3 q2⟩)
        (fun x m => .inl (by
          rcases List.mem_cons.mp m with rfl | m
          · exact List.mem_cons_self
          · exact List.mem_cons_of_mem _ ((r2 x).mp m)))
      exact h _ _ ⟨F, A2, .refl _, R2⟩
  · exact h.elim
theorem cs_clr {i : Nat} {x : Str} {p apos cpos pos : Pos} (hb : mth0B Γ i x apos cpos = true) : CS G Γ (.Expr (.Call (.Attribute (.Name x p) "clear" apos) [] [] cpos) pos) (sM0 i fun _ => []) := by
  unfold mth0B at hb
  obtain ⟨hb, hl⟩ := and2 hb
  unfold varB at hb
  obtain ⟨h1, h4⟩ := and2 hb
  obtain ⟨h1, h3⟩ := and2 h1
  obtain ⟨h1, h2⟩ := and2 h1
  refine fun X ok W tk => PS.imp (ps_expr (pe_bm0 PySem.F.plainAttrs_list PySem.F.slot_list_clear PySem.F.type_list_clear mt_clear
    (pe_var (i := i) (by rw [ok.N]; exact of_decide_eq_true h1) (by rw [ok.sc]; exact vis_of h2) (by simpa using h3) (by simpa using h4)) (attr_base rfl _ _ _) hl) (sw_none rfl _ _ _)) fun D σ H h => ?_
  obtain ⟨B, F0, L, F, A, R, h⟩ := h
  unfold sM0 at h
  split at h
  · rename_i os0 e0
    obtain ⟨v0, Ai0, g1, g2, k3, k4, k5⟩ := R.mut e0
    cases g2 with
    | @ml a us _ A' hH ra =>
      refine ⟨_, g1, .inl ⟨rfl, _, .inl (.inl hH)⟩, a, us, rfl, rfl, hH, ?_⟩
      obtain ⟨A2, R2⟩ := k5 (upd H a (.lst [])) (.ml []) [a] rfl (fun x hx _ => upd_ne (fun z => hx (by rw [z]; exact List.mem_cons_self)))
        (.ml upd_same .nil) (by simp) (fun x m => .inl (by
          rcases List.mem_cons.mp m with rfl | m
          · exact List.mem_cons_self
          · cases m))
      exact h _ _ ⟨F, A2, .refl _, R2⟩
  · exact h.elim
/-! ### x.extend(e), e a new list -/
def sExt (i : Nat) (m : Sl → R O) : Sl → RS := fun L => match L[i]? with
  | some (some (.ml _)) => sBind m (fun o L => match L[i]?, o with | some (some (.ml os)), .ml ps => if os.length + ps.length ≤ sizeLine then .next (L.set i (some (.ml (os ++ ps)))) else .stuck | _, _ => .stuck) L
  | _ => .stuck
theorem cs_ext {i : Nat} {x : Str} {e : Expr} {m : Sl → R O} {p apos cpos pos : Pos} (hb : mthB Γ i x e apos cpos = true) (he : CO G Γ e m) : CS G Γ (.Expr (.Call (.Attribute (.Name x p) "extend" apos) [e] [] cpos) pos) (sExt i m) := by
  unfold mthB at hb
  obtain ⟨hb, hl⟩ := and2 hb
  obtain ⟨hb, hn⟩ := and2 hb
  unfold varB at hb
  obtain ⟨h1, h4⟩ := and2 hb
  obtain ⟨h1, h3⟩ := and2 h1
  obtain ⟨h1, h2⟩ := and2 h1
  refine fun X ok W tk => PS.imp (ps_expr (pe_bm PySem.F.plainAttrs_list PySem.F.slot_list_extend PySem.F.type_list_extend mt_extend
    (pe_var (i := i) (by rw [ok.N]; exact of_decide_eq_true h1) (by rw [ok.sc]; exact vis_of h2) (by simpa using h3) (by simpa using h4)) (pa_cons (he X ok W tk) pa_nil (star_cons hn)) (attr_base rfl _ _ _) (few1 hn) hl (star_cons hn) (star_any (es := []) rfl)) (sw_none rfl _ _ _)) fun D σ H h => ?_
  obtain ⟨B, F0, L, F, A, R, h⟩ := h
  unfold sExt at h
  split at h
  · rename_i os0 e0
    obtain ⟨v0, Ai0, g1, g2, _⟩ := R.mut e0
    cases g2 with
    | @ml a us _ A' hH ra =>
      refine ⟨_, g1, .inl ⟨rfl, _, .inl (.inl hH)⟩, B, F0, L, F, A, R, (pS.first R h).imp R fun o F1 H1 s1 R1 gr1 hc v C ow nC fC => ?_⟩
      rw [e0] at hc
      cases ow with
      | @ml b zs ps C' hHb rb =>
        dsimp only at hc
        split at hc
        · rename_i hz
          obtain ⟨v1, Ai, k1, k2, k3, k4, k5⟩ := R1.mut e0
          rw [g1] at k1; cases k1
          cases k2 with
          | @ml _ us1 _ A1 hH1 ra1 =>
            refine ⟨a, b, us1, zs, rfl, rfl, hH1, hHb, by rw [ra1.length, rb.length]; exact hz, ?_⟩
            have fresh : ∀ c ∈ b :: C', c ∉ A := fun c hc m => by
              obtain ⟨u, e⟩ := R.os.tracked c m
              rw [(fC c hc).2] at e; cases e
            have haA := k3 a List.mem_cons_self
            have nC' := (List.nodup_cons.mp nC).2
            have fresh' : ∀ c ∈ C', c ∉ A := fun c hc => fresh c (List.mem_cons_of_mem _ hc)
            obtain ⟨A2, R2⟩ := k5 (upd H1 a (.lst (us1 ++ zs))) (.ml (os0 ++ ps)) (a :: (A1 ++ C')) rfl
              (fun x hx _ => upd_ne (fun z => hx (by rw [z]; exact List.mem_cons_self)))
              (.ml upd_same (OwA.append (OwA.mono (.refl _) (fun x m => upd_ne (fun z => (List.nodup_cons.mp k4).1 (z ▸ m))) ra1) (OwA.mono (.refl _) (fun x m => upd_ne (fun z => fresh' x m (z ▸ haA))) rb)))
              (by
                obtain ⟨q1, q2⟩ := List.nodup_cons.mp k4
                refine List.nodup_cons.mpr ⟨fun m => ?_, List.nodup_append.mpr ⟨q2, nC', fun x hx y hy z => fresh' y hy (z ▸ k3 x (List.mem_cons_of_mem _ hx))⟩⟩
                rcases List.mem_append.mp m with m | m
                · exact q1 m
                · exact fresh' a m haA)
              (fun x m => by
                rcases List.mem_cons.mp m with rfl | m
                · exact .inl List.mem_cons_self
                rcases List.mem_append.mp m with m | m
                · exact .inl (List.mem_cons_of_mem _ m)
                · exact .inr ⟨(fC x (List.mem_cons_of_mem _ m)).1, R.sb.free (fC x (List.mem_cons_of_mem _ m)).2, fresh' x m⟩)
            exact hc _ _ ⟨F1, A2, .refl _, R2⟩
        · exact hc.elim
      | v => exact hc.elim
      | mt => exact hc.elim
      | mk => exact hc.elim
      | mq => exact hc.elim
      | pin => exact hc.elim
      | me => exact hc.elim
      | mi => exact hc.elim
  · exact h.elim
end
end Eng

end
section
set_option Elab.async false
set_option linter.all false
set_option maxRecDepth 100000
set_option maxHeartbeats 4000000
/-! the engine, part 12: instances -/
namespace Eng
open PySem PySem.Spec PyProof.Rows L2
section
variable {G : Gd} {Γ : Gm} {W : WX} {B : Bd} {F0 F H : Hp} {L : Sl} {A : List Addr} {σ : L2.St}
/-! ### e.f -/
def lookF : List (Str × D) → Str → Option D
  | [], _ => none
  | (g, d) :: r, f => if f = g then some d else lookF r f
def fFld (cs : List Str) (f : Str) : D → Option D
  | .ins c gs => if c ∈ cs then lookF gs f else none
  | _ => none
theorem RpF.look {K : PySem.W.Frag} {mg : Str → Option Value} {F : Hp} {f : Str} : ∀ {vs : List (Str × V)} {ds : List (Str × D)} {d : D}, RpF K mg F vs ds → lookF ds f = some d → ∃ v, vs.lookup f = some v ∧ Rp K mg F v d
  | _, _, _, .nil, h => by cases h
  | _, _, d, .cons (x := x) (v := v) r t, h => by
    unfold lookF at h
    by_cases e : f = x
    · rw [if_pos e] at h; cases h
      exact ⟨v, by simp [List.lookup, e], r⟩
    · rw [if_neg e] at h
      obtain ⟨w, h1, h2⟩ := RpF.look t h
      refine ⟨w, ?_, h2⟩
      rw [List.lookup_cons]
      have : (f == x) = false := by simpa using e
      rw [this]; exact h1
def fldB (Γ : Gm) (cs : List Str) (f : Str) : Bool := cs.all fun c => Γ.I.any fun p => decide (p.1 = c) && p.2.any fun g => decide (g = f)
theorem fldB_of (gr : Γ.Gr G) {cs : List Str} {f : Str} (h : fldB Γ cs f = true) {c : Str} (hc : c ∈ cs) : ∃ C, G.mg c = some (.ref C) ∧ Cls G.K C ∧ NoAttr G.K C f := by
  unfold fldB at h
  rw [List.all_eq_true] at h
  have := h c hc
  rw [List.any_eq_true] at this
  obtain ⟨p, hp, q⟩ := this
  obtain ⟨q1, q2⟩ := and2 q
  rw [List.any_eq_true] at q2
  obtain ⟨g, hg, q3⟩ := q2
  obtain ⟨C, e1, e2, e3⟩ := gr.is p hp
  have q1 := of_decide_eq_true q1
  have q3 := of_decide_eq_true q3
  subst q1; subst q3
  exact ⟨C, e1, e2, e3 g hg⟩
theorem ce_fld (gr : Γ.Gr G) {e : Expr} {f : Str} {cs : List Str} {m : Sl → R D} {pos : Pos} (hc : (attrB e && fldB Γ cs f) = true) (he : CE G Γ e m) : CE G Γ (.Attribute e f pos) (m1 (fFld cs f) m) := by
  refine fun X ok W tk => PE.imp (pe_fld (he X ok W tk) (attr_base (and2 hc).1 _ _ _)) fun σ H Q h => ?_
  obtain ⟨B, F0, L, F, A, R, h⟩ := h
  refine ⟨B, F0, L, F, A, R, (pG.bind h).imp R fun d F1 H1 s1 R1 g1 h1 v rv => ?_⟩
  cases rv with
  | @ins a C dx c fs gs hF hm rf =>
    have h1 : pG G W σ F1 H1 (lift (if c ∈ cs then lookF gs f else none)) (fun d F' H' => ∀ v, Rp G.K G.mg F' v d → Q v H') := h1
    split at h1
    · rename_i hcs
      obtain ⟨C', e1, e2, e3⟩ := fldB_of gr (and2 hc).2 hcs
      rw [hm] at e1; cases e1
      cases el : lookF gs f with
      | none => rw [el] at h1; exact h1.elim
      | some d =>
        rw [el] at h1
        obtain ⟨w, q1, q2⟩ := rf.look el
        exact ⟨_, _, _, _, w, rfl, R1.sf _ _ hF, by rw [ok.K]; exact e2, by rw [ok.K]; exact e3, q1, h1 F1 H1 (.refl R1.sf) w q2⟩
    · exact h1.elim
  | _ => exact h1.elim
/-! ### x.f = e -/
def putFO (f : Str) (o : O) : List (Str × O) → List (Str × O)
  | [] => [(f, o)]
  | (g, x) :: r => if g = f then (g, o) :: r else (g, x) :: putFO f o r
theorem OwF.put {tg : Tg} {K : PySem.W.Frag} {mg : Str → Option Value} {F H : Hp} {f : Str} {v : V} {o : O} {C : List Addr} (r : Ow tg K mg F H v o C) : ∀ {fs : List (Str × V)} {os : List (Str × O)} {A : List Addr}, OwF tg K mg F H fs os A →
    ∃ A', OwF tg K mg F H (putF f v fs) (putFO f o os) A' ∧ (∀ a ∈ A', a ∈ A ∨ a ∈ C) ∧ (A.Nodup → C.Nodup → (∀ a ∈ C, a ∉ A) → A'.Nodup)
  | _, _, _, .nil => ⟨C ++ [], .cons r .nil, fun a m => .inr (by simpa using m), fun _ n _ => by simpa using n⟩
  | _, _, _, .cons (x := x) (A := A) (B := B) q t => by
    unfold putF putFO
    by_cases e : x = f
    · rw [if_pos e, if_pos e]
      refine ⟨C ++ B, .cons r t, fun a m => ?_, fun n n' d => ?_⟩
      · rcases List.mem_append.mp m with m | m
        · exact .inr m
        · exact .inl (List.mem_append_right _ m)
      · exact List.nodup_append.mpr ⟨n', (List.nodup_append.mp n).2.1, fun a ha b hb z => d a ha (List.mem_append_right _ (z ▸ hb))⟩
    · rw [if_neg e, if_neg e]
      obtain ⟨A', h1, h2, h3⟩ := OwF.put r t
      refine ⟨A ++ A', .cons q h1, fun a m => ?_, fun n n' d => ?_⟩
      · rcases List.mem_append.mp m with m | m
        · exact .inl (List.mem_append_left _ m)
        · exact (h2 a m).imp (List.mem_append_right _) id
      · obtain ⟨m1, m2, m3⟩ := List.nodup_append.mp n
        refine List.nodup_append.mpr ⟨m1, h3 m2 n' (fun a ha z => d a ha (List.mem_append_right _ z)), fun a ha b hb z => ?_⟩
        rcases h2 b hb with w | w
        · exact m3 a ha b w z
        · exact d b w (List.mem_append_left _ (z ▸ ha))
theorem OwF.length {tg : Tg} {K : PySem.W.Frag} {mg : Str → Option Value} {F H : Hp} : ∀ {vs : List (Str × V)} {os : List (Str × O)} {A : List Addr}, OwF tg K mg F H vs os A → vs.length = os.length
  | _, _, _, .nil => rfl
  | _, _, _, .cons _ t => congrArg (· + 1) (OwF.length t)
def sFSet (i : Nat) (cs : List Str) (f : Str) (m : Sl → R O) : Sl → RS := sBind m fun o L => match L[i]? with
  | some (some (.mi p c fs)) => if c ∈ cs ∧ fs.length < 1000 then .next (L.set i (some (.mi p c (putFO f o fs)))) else .stuck
  | _ => .stuck
theorem cs_fset (gr : Γ.Gr G) {i : Nat} {x f : Str} {e : Expr} {cs : List Str} {m : Sl → R O} {p pos' pos : Pos} (hb : varB Γ i x = true) (hc : (noComp e && fldB Γ cs f) = true) (he : CO G Γ e m) : CS G Γ (.Assign [.Attribute (.Name x p) f pos'] e pos) (sFSet i cs f m) := by
  unfold varB at hb
  obtain ⟨h1, h4⟩ := and2 hb
  obtain ⟨h1, h3⟩ := and2 h1
  obtain ⟨h1, h2⟩ := and2 h1
  refine fun X ok W tk => PS.imp (ps_fld (pe_var (i := i) (by rw [ok.N]; exact of_decide_eq_true h1) (by rw [ok.sc]; exact vis_of h2) (by simpa using h3) (by simpa using h4)) (he X ok W tk) (sw_none (and2 hc).1 _ _ _)) fun D σ H h => ?_
  obtain ⟨B, F0, L, F, A, R, h⟩ := h
  refine ⟨B, F0, L, F, A, R, (pS.first R h).imp R fun o F1 H1 s1 R1 gr1 hc' v C ow nC fC => ?_⟩
  cases e0 : L[i]? with
  | none => rw [e0] at hc'; exact hc'.elim
  | some u =>
    cases u with
    | none => rw [e0] at hc'; exact hc'.elim
    | some o0 =>
      rw [e0] at hc'
      obtain ⟨v1, Ai, k1, k2, k3, k4, k5⟩ := R1.mut e0
      cases k2 with
      | @mi a C' dx p' c fs os A1 hH hm rf =>
        dsimp only at hc'
        split at hc'
        · rename_i hz
          obtain ⟨C'', e1, e2, e3⟩ := fldB_of gr (and2 hc).2 hz.1
          rw [hm] at e1; cases e1
          refine ⟨_, k1, a, C', dx, fs, rfl, hH, by rw [ok.K]; exact e2, by rw [ok.K]; exact e3, by rw [rf.length]; exact hz.2, ?_⟩
          have fresh : ∀ c ∈ C, c ∉ A := fun c hc m => by
            obtain ⟨u, e⟩ := R.os.tracked c m
            rw [(fC c hc).2] at e; cases e
          have haA := k3 a List.mem_cons_self
          obtain ⟨q1, q2⟩ := List.nodup_cons.mp k4
          have u1 : OwF G.tg G.K G.mg F1 (upd H1 a (.ins C' dx (putF f v fs))) fs os A1 := OwF.mono (.refl _) (fun x m => upd_ne (fun z => q1 (z ▸ m))) rf
          have u2 : Ow G.tg G.K G.mg F1 (upd H1 a (.ins C' dx (putF f v fs))) v o C := Ow.mono (.refl _) (fun x m => upd_ne (fun z => fresh x m (z ▸ haA))) ow
          obtain ⟨A', w1, w2, w3⟩ := OwF.put (f := f) u2 u1
          obtain ⟨A2, R2⟩ := k5 (upd H1 a (.ins C' dx (putF f v fs))) (.mi p' c (putFO f o os)) (a :: A') rfl (fun x hx _ => upd_ne (fun z => hx (by rw [z]; exact List.mem_cons_self)))
            (.mi upd_same hm w1)
            (List.nodup_cons.mpr ⟨fun m => (w2 a m).elim q1 (fun z => fresh a z haA), w3 q2 nC (fun x hx z => fresh x hx (k3 x (List.mem_cons_of_mem _ z)))⟩)
            (fun x m => by
              rcases List.mem_cons.mp m with rfl | m
              · exact .inl List.mem_cons_self
              · rcases w2 x m with z | z
                · exact .inl (List.mem_cons_of_mem _ z)
                · exact .inr ⟨(fC x z).1, R.sb.free (fC x z).2, fresh x z⟩)
          exact hc' _ _ ⟨F1, A2, .refl _, R2⟩
        · exact hc'.elim
      | _ => exact hc'.elim
/-! ### C(..) -/
theorem run_makeS {X : Cx} {CX : CXT} {k : Nat} {f C : Addr} {fd : FuncData} {ps : List Str} {sp : Sp} {E : XK} {pins : List (Addr × Obj)} {σ : L2.St} {H : Hp} {s : Shared} {Q : VK} {us : List Value} {vs : List V} (M : Mk X.K C f) (F : FnOk X.prog X.w X.K X.mg X.base CX k f fd ps sp)
    (hr : Room (k + 1) X.A) (hb : Binds X.K fd ps []) (hx : PassesAt CX X σ E) (I : Inv X pins σ H s) (r : Vals vs us)
    (h : ∀ x dx, H x = none → H dx = none → dx ≠ x → sp (.ref x :: vs) (upd (upd H dx (.own x)) x (.ins C dx [])) (fun v H2 => v = .non ∧ Q (.ref x) H2) E) :
    wpAny (model X.prog X.w) X.A (call (.ref C) us) (EP X pins σ Q) X.xe s := by
  have hq := h (s.heap.objs.size + 1) s.heap.objs.size (I.hok.fresh (Nat.le_succ _)) (I.hok.fresh (Nat.le_refl _)) (Nat.ne_of_lt (Nat.lt_succ_self _))
  have I2 := Inv.made (C := C) I
  have r2 : Vals (V.ref (s.heap.objs.size + 1) :: vs) (Value.ref (s.heap.objs.size + 1) :: us) := .cons rfl r
  have hl : (Value.ref (s.heap.objs.size + 1) :: us ++ []).length = ps.length := by
    have e := r2.length
    rw [F.len _ _ _ _ hq] at e
    rw [List.append_nil]
    exact e.symm
  have hbb := hb _ (Value.ref (s.heap.objs.size + 1) :: us) I2.kIn hl
  rw [List.append_nil] at hbb
  refine wpAny_call (make_map (f := f) I.kIn M.makes M.init (beq_iff_eq.mp M.fn) (codeAny_mono (F.run _ X.stack _ _ ⟨Value.ref (s.heap.objs.size + 1) :: us, []⟩ (Value.ref (s.heap.objs.size + 1) :: us) _ _ E (hr.make C us [])
    (I2.env0.make C us []) hbb r2 hq) fun r s' hq' => ?_))
  cases r with
  | error e => exact hx pins _ _ e s' I2 hq'
  | ok fl =>
    cases fl with
    | ret u =>
      obtain ⟨v, H', I3, rv, ev, q3⟩ := I2.after hq'
      subst ev
      exact ⟨rv, ⟨V.ref (s.heap.objs.size + 1), H', I3, rfl, q3⟩⟩
    | next => exact False.elim hq'
    | brk => exact False.elim hq'
    | cont => exact False.elim hq'
def makeB (Γ : Gm) (e : CN) (es : List Expr) : Bool := decide (Γ.cm = true ∧ e.k + 1 ≤ Γ.k) && glB Γ.sc e.name && es.all nst && !(e.name == ("__debug__" : Str))
theorem co_make (gr : Γ.Gr G) {e : CN} {a : Expr} {es : List Expr} {m : Sl → R (List D)} {p pos : Pos} (hm : e ∈ Γ.Q) (h : makeB Γ e (a :: es) = true) (ha : CA G Γ (a :: es) m) : CO G Γ (.Call (.Name e.name p) (a :: es) [] pos) (mCall e.fn m) := by
  unfold makeB at h
  obtain ⟨h, h4⟩ := and2 h
  obtain ⟨h, h3⟩ := and2 h
  obtain ⟨h1, h2⟩ := and2 h
  rw [List.all_cons] at h3
  obtain ⟨h3, h3'⟩ := and2 h3
  obtain ⟨C, f, fd, ps, hmg, hMk, hb, F⟩ := gr.mkx e hm
  refine fun X ok W tk => ⟨fun pins s σ H Q I hh => ?_⟩
  obtain ⟨B, F0, L, F1, A, R, hh⟩ := hh
  refine wpAny_Call_Name_kw (ld_glob I (gl_of ok.sc h2) (by rw [ok.mg]; exact hmg) ?_ (by simpa using h4))
  refine PySem.W.callWith_K (h₀ := X.base) I.ok.mod.kin (by rw [ok.K]; exact hMk.kp) (thn ((ha X ok W tk).run pos pins s σ H (fun vs H1 => ∃ F2 ds, Same F2 H1 ∧ Same H H1 ∧ RpA G.K G.mg F2 vs ds ∧ pG G W σ F2 H1 (e.fn ds) fun o F' H' => ∀ v C, Ow G.tg G.K G.mg F' H' v o C → C.Nodup → (∀ a ∈ C, F' a = none ∧ H a = none) → Q v H') I ?_) fun us s1 ⟨vs, H1, I1, r, q⟩ => ⟨I1.kIn, ?_⟩) (star_cons h3) (star_any h3')
  · exact ⟨B, F0, L, F1, A, R, (pG.bind hh).imp R fun ds F2 H1 s2 R2 g2 h2 vs rv => ⟨F2, ds, R2.sf, g2.sH, rv, h2⟩⟩
  · obtain ⟨F2, ds, s2, sH, rv, q⟩ := q
    have F' : FnOk X.prog X.w X.K X.mg X.base (L2.CX X.prog X.w) e.k f fd ps (spI G C e.fn) := by rw [ok.prog, ok.w, ok.K, ok.mg, ok.base]; exact F
    refine run_makeS (C := C) (by rw [ok.K]; exact hMk) F' ((ok.room (of_decide_eq_true h1).1).mono (of_decide_eq_true h1).2) (by rw [ok.K]; exact hb) (passAt tk σ) I1 r fun x dx hx hdx hne => ?_
    refine ⟨x, dx, vs, ds, F2, H1, rfl, rfl, hx, hdx, hne, s2, rv, ?_⟩
    cases e1 : e.fn ds with
    | ok o =>
      rw [e1] at q
      rintro H' ⟨F, D', t1, t2, t3, t4, ow, nC, fC⟩
      exact ⟨rfl, q F H' ⟨t3, t1, t2, t4⟩ _ D' ow nC fun a m => ⟨(fC a m).1, sH.free (fC a m).2⟩⟩
    | exc c =>
      rw [e1] at q
      obtain ⟨C', eC, q⟩ := q
      exact ⟨C', eC, fun H' s => q F2 H' ⟨s, .refl _, s2.trans s, fun a z _ => z⟩⟩
    | stuck => rw [e1] at q; exact q.elim
/-! ### __init__ from its body -/
def unpin : O → O | .mi _ c fs => .mi false c fs | o => o
def outI : Sl → R O
  | some (O.mi true c fs) :: _ => .ok (.mi false c fs)
  | _ => .stuck
theorem outI_ok {L : Sl} {o : O} (h : outI L = .ok o) : ∃ c fs L', L = some (O.mi true c fs) :: L' ∧ o = .mi false c fs := by
  unfold outI at h
  split at h
  · cases h; exact ⟨_, _, _, rfl, rfl⟩
  · cases h
theorem outI_exc {L : Sl} {c : Str} (h : outI L = .exc c) : False := by
  unfold outI at h
  split at h <;> cases h
def slI (n : Nat) (c : Str) (ds : List D) : Sl := some (.mi true c []) :: sl0 (n - 1) ds
def runI (n : Nat) (c : Str) (m : Sl → RS) (ar : Nat) (ds : List D) : R O := if ds.length = ar then (match m (slI n c ds) with
  | .next L => outI L
  | .exc c _ => .exc c
  | _ => .stuck) else .stuck
theorem initok_of {Γ : Gm} {c qual : Str} {st : Stmt} {f C : Addr} {fd : FuncData} {ps : List Str} {m : Sl → RS} {k ar : Nat} (F : Fun G.K "__init__" qual st f fd) (S : FnScope Γ.N ps (defScope st)) (hsc : Γ.sc = defScope st) (hn : 1 ≤ Γ.N.length) (hps : ps.length = ar + 1)
    (hC : G.mg c = some (.ref C)) (hk : Γ.k = k) (cs : CSs G Γ (defBody st) m) : FnOk G.P G.w G.K G.mg G.base (L2.CX G.P G.w) (k + 1) f fd ps (spI G C (runI Γ.N.length c m ar)) := by
  subst hk
  refine F.okX S (fun vs H Q E h => ?_) (fun cdv A outer s H vs Q E hr h => ?_)
  · obtain ⟨x, dx, us, ds, F0, H0, rfl, rfl, hx, hdx, hne, s0, r, h⟩ := h
    rw [List.length_cons, r.length]
    by_cases e : ds.length = ar
    · rw [e, hps]
    · have z : runI Γ.N.length c m ar ds = .stuck := if_neg e
      rw [z] at h; exact h.elim
  · obtain ⟨x, dx, us, ds, F0, H0, rfl, rfl, hx, hdx, hne, s0, r, h⟩ := h
    have hlen : ds.length = ar := by
      by_cases e : ds.length = ar
      · exact e
      · have z : runI Γ.N.length c m ar ds = .stuck := if_neg e
        rw [z] at h; exact h.elim
    have hrun : runI Γ.N.length c m ar ds = (match m (slI Γ.N.length c ds) with
      | .next L => outI L
      | .exc c _ => .exc c
      | _ => .stuck) := if_pos hlen
    rw [hrun] at h
    have sH : Same H0 (upd (upd H0 dx (.own x)) x (.ins C dx [])) := fun a u e => by
      rw [upd_ne (ne_of_none e hx), upd_ne (ne_of_none e hdx)]; exact e
    have sB : Same H0 (fun a => if a = x then none else upd (upd H0 dx (.own x)) x (.ins C dx []) a) := fun a u e => by
      show (if a = x then none else _) = some u
      rw [if_neg (ne_of_none e hx)]; exact sH _ _ e
    refine ⟨tS G (fun cls d _ H' => E cls d H') m, cs _ ⟨rfl, rfl, rfl, rfl, rfl, rfl, S.nd, hsc.symm, S.kind, fun _ => rfl, fun _ => hr, un_of hr, passes_of rfl, fun _ _ => .inl rfl, fun _ => ⟨rfl, rfl⟩⟩ _ (takes_of rfl rfl rfl rfl), ?_⟩
    refine ⟨⟨fun a => if a = x then none else upd (upd H0 dx (.own x)) x (.ins C dx []) a, [(0, x)]⟩, F0, slI Γ.N.length c ds, F0, [x], ⟨?_, by simp, s0.trans sH, .refl _, fun a u e => ?_, fun _ e _ => e, fun a m => ?_, fun q m => ?_⟩, ?_⟩
    · unfold L2.start slI
      rw [List.map_cons, List.cons_append]
      refine OwS.some (A := [x]) (B := []) (.mi upd_same hC .nil) ?_
      unfold sl0
      rw [List.length_cons, r.length, show Γ.N.length - (ds.length + 1) = Γ.N.length - 1 - ds.length by omega]
      exact ow0 r
    · dsimp only at e
      split at e
      · cases e
      · exact e
    · rw [List.mem_singleton.mp m]
      exact ⟨s0.free hx, if_pos rfl⟩
    · rw [List.mem_singleton.mp m]
      exact ⟨rfl, rfl⟩
    · cases e : m (slI Γ.N.length c ds) with
      | next L =>
        rw [e] at h
        rintro σ' H' ⟨F', A', s', R'⟩
        dsimp only at h
        cases eo : outI L with
        | stuck => rw [eo] at h; exact h.elim
        | exc c => exact (outI_exc eo).elim
        | ok o =>
          rw [eo] at h
          obtain ⟨c', fs, L', rfl, rfl⟩ := outI_ok eo
          obtain ⟨v, A1, Ai, A2, h1, h2, h3, h4⟩ := R'.os.take (i := 0) rfl
          obtain ⟨h5, _⟩ := R'.pn (0, x) (by simp)
          rw [h1] at h5; cases h5
          have nd := R'.nd
          rw [h3] at nd
          have n2 := (List.nodup_append.mp (List.nodup_append.mp nd).1).2.1
          cases h2 with
          | mi q1 q2 q3 =>
            refine h H' ⟨F', _, s', R'.sf, sB.trans R'.sb, fun a z n => R'.fb a z (nt_mono sB n), .mi q1 q2 q3, n2, fun a m => ?_⟩
            · obtain ⟨z1, z2⟩ := R'.fa a (by rw [h3]; exact List.mem_append_left _ (List.mem_append_right _ m))
              exact ⟨z1, sB.free z2⟩
      | exc c L =>
        rw [e] at h
        obtain ⟨C, eC, h⟩ := h
        exact ⟨C, eC, fun σ' H' ⟨F', A', s', R'⟩ => h H' (sB.trans R'.sb)⟩
      | ret o L => rw [e] at h; exact h.elim
      | brk L => rw [e] at h; exact h.elim
      | cont L => rw [e] at h; exact h.elim
      | stuck => rw [e] at h; exact h.elim
end
end Eng

end
section
set_option Elab.async false
set_option linter.all false
set_option maxRecDepth 100000
set_option maxHeartbeats 4000000
/-! the engine, part 13: new lists of others: list(x), sorted(x) -/
namespace Eng
open PySem PySem.Spec PyProof.Rows L2
section
variable {G : Gd} {Γ : Gm}
def rVO (G : Gd) (f : List D → Option O) : List V → Hp → VK → Prop := fun vs H Q => ∃ F ds o, Same F H ∧ RpA G.K G.mg F vs ds ∧ f ds = some o ∧ ∀ v C F' H', Grow F H F' H' → Ow G.tg G.K G.mg F' H' v o C → C.Nodup → (∀ a ∈ C, F' a = none ∧ H a = none) → Q v H'
def BltO (G : Gd) (f : List D → Option O) (u : Value) : Prop := ∀ (X : Cx) (Γ : Gm), Γ.Ok G X → X.calm = true → CallR X u (rVO G f)
def mFO (f : List D → Option O) (m : Sl → R (List D)) : Sl → R O := fun L => (m L).bind fun ds => lift (f ds)
theorem argsO {f : List D → Option O} {m : Sl → R (List D)} {W : WX} {σ : L2.St} {H : Hp} {Q : VK} (h : tO G W (mFO f m) σ H Q) : tCB (rVO G f) (tA G W m) σ H Q := by
  obtain ⟨B, F0, L, F, A, R, h⟩ := h
  refine ⟨B, F0, L, F, A, R, (pG.bind h).imp R fun ds F1 H1 s1 R1 g1 h1 vs rv => ?_⟩
  cases e : f ds with
  | none => rw [e] at h1; exact h1.elim
  | some d =>
    rw [e] at h1
    exact ⟨F1, ds, d, R1.sf, rv, e, fun v C F' H' g ow nC fC => h1 F' H' g v C ow nC fun a m => ⟨(fC a m).1, g1.sH.free (fC a m).2⟩⟩
theorem co_bn (gr : Γ.Gr G) {f : List D → Option O} {x : Str} {id : String} {a : Expr} {es : List Expr} {m : Sl → R (List D)} {p pos : Pos} (hc : BltO G f (.builtin id)) (hv : bootBuiltins x = some (.builtin id)) (h : bltB Γ x a es = true) (ha : CA G Γ (a :: es) m) :
    CO G Γ (.Call (.Name x p) (a :: es) [] pos) (mFO f m) := by
  obtain ⟨h1, h2, h3, h4, h5, h6, h7⟩ := bltB_of h
  exact fun X ok W tk => PE.imp (pe_callB (hc X Γ ok (ok.calm h7)) (gl_of ok.sc h2) (by rw [ok.mg]; exact gr.bl x h1) hv (ha X ok W tk) h5 h6 (star_cons h3) (star_any h4)) fun _ _ _ h => argsO h
theorem co_tn (gr : Γ.Gr G) {f : List D → Option O} {x : Str} {id : String} {a : Expr} {es : List Expr} {m : Sl → R (List D)} {p pos : Pos} (hc : BltO G f (.type id)) (hv : bootBuiltins x = some (.type id)) (h : bltB Γ x a es = true) (ha : CA G Γ (a :: es) m) :
    CO G Γ (.Call (.Name x p) (a :: es) [] pos) (mFO f m) := by
  obtain ⟨h1, h2, h3, h4, h5, h6, h7⟩ := bltB_of h
  exact fun X ok W tk => PE.imp (pe_callTy (hc X Γ ok (ok.calm h7)) (gl_of ok.sc h2) (by rw [ok.mg]; exact gr.bl x h1) hv (ha X ok W tk) h5 h6 (star_cons h3) (star_any h4)) fun _ _ _ h => argsO h
/-- a new list at p -/
theorem new_ml {F H : Hp} {vs : List V} {ds : List D} {Q : VK} {p : Addr} (sf : Same F H) (rv : RpA G.K G.mg F vs ds) (hp : H p = none)
    (h : ∀ v C F' H', Grow F H F' H' → Ow G.tg G.K G.mg F' H' v (.ml (ds.map .v)) C → C.Nodup → (∀ a ∈ C, F' a = none ∧ H a = none) → Q v H') : Q (.ref p) (upd H p (.lst vs)) := by
  refine h (.ref p) [p] F (upd H p (.lst vs)) ⟨fun a u e => ?_, .refl _, fun a u e => ?_, fun _ e _ => e⟩ (.ml upd_same rv.ow) (by simp) (fun a m => by rw [List.mem_singleton.mp m]; exact ⟨sf.free hp, hp⟩)
  · rw [upd_ne (ne_of_none e hp)]; exact e
  · rw [upd_ne (ne_of_none (sf _ _ e) hp)]; exact sf _ _ e
/-! ### list(x) -/
def fList : List D → Option O
  | [.lst ds] => some (.ml (ds.map .v))
  | [.tup ds] => some (.ml (ds.map .v))
  | _ => none
theorem b_list : BltO G fList (.type "list") := by
  intro X Γ ok cl pins s σ H xs us Q I r h
  obtain ⟨F, ds, d, sf, hr, e, h⟩ := h
  unfold fList at e
  split at e
  · cases e
    cases hr with
    | cons r1 r2 => cases r2; cases r1 with
      | lst h1 r1 => exact call_list_of pins s σ H _ us Q I r ⟨_, _, rfl, .inl (by rw [ok.K]; exact Same.seq sf h1), fun l hl => new_ml sf r1 hl h⟩
  · cases e
    cases hr with
    | cons r1 r2 => cases r2; cases r1 with
      | tup h1 r1 => exact call_list_of pins s σ H _ us Q I r ⟨_, _, rfl, .inr (by rw [ok.K]; exact sf.tq h1), fun l hl => new_ml sf r1 hl h⟩
  · cases e
/-! ### sorted(x) -/
def pyOr (d : D) : PyData := d.py.getD .none
structure SortOk (ds : List D) : Prop where
  py : ∀ d ∈ ds, (D.py d).isSome = true
  al : W.AllAlike (ds.map pyOr)
  so : W.Sortable (ds.map pyOr)
  dp : ∀ d ∈ ds, (pyOr d).depth ≤ 64
  le : ds.length ≤ sizeLine
def sortD (ds : List D) : List D := ds.mergeSort (W.dataLe false pyOr)
mutual
theorem reads_lt {h : Heap} : ∀ {v : Value} {d : PyData} {as : List Addr}, Reads h v d as → ∀ a ∈ as, ∃ o, h.get? a = some o
  | _, _, _, .none => fun _ m => nomatch m
  | _, _, _, .bool _ => fun _ m => nomatch m
  | _, _, _, .int _ _ => fun _ m => nomatch m
  | _, _, _, .str _ _ => fun _ m => nomatch m
  | _, _, _, .list h1 _ _ r => fun a m => by
    rcases List.mem_cons.mp m with rfl | m
    · exact ⟨_, h1⟩
    · exact readsAll_lt r a m
  | _, _, _, .tuple _ _ _ r => readsAll_lt r
  | _, _, _, .dict h1 _ _ r q => fun a m => by
    rcases List.mem_append.mp m with m | m
    · rcases List.mem_cons.mp m with rfl | m
      · exact ⟨_, h1⟩
      · exact readsAll_lt r a m
    · exact readsAll_lt q a m
theorem readsAll_lt {h : Heap} : ∀ {v : List Value} {d : List PyData} {as : List Addr}, ReadsAll h v d as → ∀ a ∈ as, ∃ o, h.get? a = some o
  | _, _, _, .nil => fun _ m => nomatch m
  | _, _, _, .cons r q => fun a m => (List.mem_append.mp m).elim (reads_lt r a) (readsAll_lt q a)
end
/-- values by their data -/
abbrev VD := V × D
theorem each_of {F : Hp} : ∀ {vs : List V} {ds : List D} {us : List Value}, RpA G.K G.mg F vs ds → Vals vs us → W.EachIs (fun (u : Value) (p : VD) => RelV p.1 u) us (vs.zip ds)
  | _, _, _, .nil, .nil => .nil
  | _, _, _, .cons r t, .cons q z => .cons q (each_of t z)
theorem rpA_zip {F : Hp} : ∀ {vs : List V} {ds : List D}, RpA G.K G.mg F vs ds → ∀ p ∈ vs.zip ds, Rp G.K G.mg F p.1 p.2
  | _, _, .nil => fun _ m => nomatch m
  | _, _, .cons r t => fun p m => by
    rcases List.mem_cons.mp m with rfl | m
    · exact r
    · exact rpA_zip t p m
theorem zip_rpA {F : Hp} : ∀ {bs : List VD}, (∀ p ∈ bs, Rp G.K G.mg F p.1 p.2) → RpA G.K G.mg F (bs.map (·.1)) (bs.map (·.2))
  | [], _ => .nil
  | b :: bs, h => .cons (h b List.mem_cons_self) (zip_rpA fun p m => h p (List.mem_cons_of_mem _ m))
theorem each_vals : ∀ {us : List Value} {bs : List VD}, W.EachIs (fun (u : Value) (p : VD) => RelV p.1 u) us bs → Vals (bs.map (·.1)) us
  | _, _, .nil => .nil
  | _, _, .cons r t => .cons r (each_vals t)
theorem each_reads {X : Cx} {pins : List (Addr × Obj)} {σ : L2.St} {H F : Hp} {s : Shared} (ok : Γ.Ok G X) (I : Inv X pins σ H s) (sf : Same F H) : ∀ {us : List Value} {bs : List VD}, W.EachIs (fun (u : Value) (p : VD) => RelV p.1 u) us bs → (∀ p ∈ bs, Rp G.K G.mg F p.1 p.2 ∧ p.2.py.isSome = true) →
    W.EachIs (fun (u : Value) (p : VD) => ∃ as, Reads s.heap u (pyOr p.2) as) us bs
  | _, _, .nil, _ => .nil
  | _, _, .cons (b := b) r t, h => by
    refine .cons ?_ (each_reads ok I sf t fun p m => h p (List.mem_cons_of_mem _ m))
    obtain ⟨h1, h2⟩ := h b List.mem_cons_self
    obtain ⟨p, hp⟩ := Option.isSome_iff_exists.mp h2
    obtain ⟨as, q⟩ := Rp.rd ok I sf h1 hp r
    exact ⟨as, by unfold pyOr; rw [hp]; exact q⟩
theorem zip_fst : ∀ {vs : List V} {ds : List D}, vs.length = ds.length → (vs.zip ds).map (·.1) = vs
  | [], [], _ => rfl
  | v :: vs, d :: ds, h => by rw [List.zip_cons_cons, List.map_cons, zip_fst (by simpa using h)]
theorem zip_snd : ∀ {vs : List V} {ds : List D}, vs.length = ds.length → (vs.zip ds).map (·.2) = ds
  | [], [], _ => rfl
  | v :: vs, d :: ds, h => by rw [List.zip_cons_cons, List.map_cons, zip_snd (by simpa using h)]
theorem sort_snd (bs : List VD) : (bs.mergeSort (W.dataLe false fun p : VD => pyOr p.2)).map (·.2) = sortD (bs.map (·.2)) := by
  unfold sortD
  exact List.map_mergeSort fun a _ b _ => rfl
/-- behind the sort of the new list D -/
theorem sorted_end {X : Cx} {pins : List (Addr × Obj)} {σ : L2.St} {H F : Hp} {s : Shared} {D : Addr} {c : Nat} {out : List Value} {bs : List VD} {h' : Heap} {tk : Nat} {Q : VK} (I : Inv X pins σ H s) (sf : Same F H) (k : ∀ b o, s.heap.get? b = some o → h'.get? b = some o)
    (hD : s.heap.objs.size ≤ D) (ho : h'.get? D = some (seqObj "list" out.toArray c)) (hl : bs.length ≤ sizeLine) (rp : ∀ p ∈ bs, Rp G.K G.mg F p.1 p.2)
    (e : W.EachIs (fun (u : Value) (p : VD) => RelV p.1 u) out (bs.mergeSort (W.dataLe false fun p : VD => pyOr p.2)))
    (h : ∀ v C F' H', Grow F H F' H' → Ow G.tg G.K G.mg F' H' v (.ml ((sortD (bs.map (·.2))).map .v)) C → C.Nodup → (∀ a ∈ C, F' a = none ∧ H a = none) → Q v H') : EP X pins σ Q (.ref D) { s with heap := h', toks := tk } := by
  have hn := I.hok.fresh hD
  have pm := List.mergeSort_perm bs (W.dataLe false fun p : VD => pyOr p.2)
  have rv := zip_rpA (G := G) (F := F) (bs := bs.mergeSort (W.dataLe false fun p : VD => pyOr p.2)) fun p m => rp p (pm.mem_iff.mp m)
  rw [sort_snd] at rv
  refine ⟨.ref D, upd H D (.lst ((bs.mergeSort (W.dataLe false fun p : VD => pyOr p.2)).map (·.1))), I.laid (t' := tk) k hD ⟨by rw [List.length_map, pm.length_eq]; exact hl, out, c, each_vals e, ho⟩, rfl, new_ml sf rv hn h⟩
theorem sorted_list {X : Cx} (ok : Γ.Ok G X) {pins : List (Addr × Obj)} {σ : L2.St} {H F : Hp} {s : Shared} {a : Addr} {vs : List V} {ds : List D} {Q : VK} (I : Inv X pins σ H s) (sf : Same F H) (hs : SqL G.K F a vs) (rv : RpA G.K G.mg F vs ds) (so : SortOk ds)
    (h : ∀ v C F' H', Grow F H F' H' → Ow G.tg G.K G.mg F' H' v (.ml ((sortD ds).map .v)) C → C.Nodup → (∀ a ∈ C, F' a = none ∧ H a = none) → Q v H') : wpAny (model X.prog X.w) X.A (call (.builtin "sorted") [.ref a]) (EP X pins σ Q) X.xe s := by
  obtain ⟨its, r, pl, hz⟩ := I.list (by rw [ok.K]; exact Same.seq sf hs)
  obtain ⟨o, n, ho, hc, hd, hdat⟩ := pl
  have hlen := rv.length
  have es := zip_snd hlen
  have rp := rpA_zip rv
  have e1 := each_of rv r
  have uu := ok.units
  have hbs : (vs.zip ds).length = ds.length := by rw [List.length_zip, hlen, Nat.min_self]
  have hm : ∀ p ∈ vs.zip ds, p.2 ∈ ds := fun p m => (List.of_mem_zip (a := p.1) (b := p.2) m).2
  have enc : (vs.zip ds).map (fun p : VD => pyOr p.2) = ds.map pyOr := by rw [← es, List.map_map]; simp [es]
  refine W.sorted_data (bs := vs.zip ds) (enc := fun p : VD => pyOr p.2) (vs := its) ⟨o, ho, hc, n, hdat⟩ e1 (each_reads ok I sf e1 fun p m => ⟨rp p m, so.py _ (hm p m)⟩) (by rw [enc]; exact so.al) (by rw [enc]; exact so.so) (by rw [hbs]; exact so.le)
    (fun b hb => by have := so.dp _ (hm b hb); omega) fun out hl eo => ?_
  obtain ⟨c, hc'⟩ := sortedAll_at s.heap its (List.toArray out)
  refine sorted_end (G := G) (tk := s.toks) I sf (fun b o => sortedAll_old) (Nat.le_succ _) hc' (by rw [hbs]; exact so.le) rp eo ?_
  rw [es]; exact h
/-- sorted(d) of a dict whose keys are kv -/
theorem sorted_keys {X : Cx} (ok : Γ.Ok G X) (cl : X.calm = true) {pins : List (Addr × Obj)} {σ : L2.St} {H F : Hp} {s : Shared} {a : Addr} {P : Nat → Value → Prop} {OK : Heap → Prop} {n : Nat} {vs : List V} {ds : List D} {Q : VK} (I : Inv X pins σ H s) (sf : Same F H) (K : W.KdlSrc X.prog X.w "dict" a a n P OK) (hok : OK s.heap)
    (hn : vs.length = n) (hp : ∀ j v, P j v → ∃ x, vs[j]? = some x ∧ RelV x v) (rv : RpA G.K G.mg F vs ds) (so : SortOk ds)
    (h : ∀ v C F' H', Grow F H F' H' → Ow G.tg G.K G.mg F' H' v (.ml ((sortD ds).map .v)) C → C.Nodup → (∀ a ∈ C, F' a = none ∧ H a = none) → Q v H') : wpAny (model X.prog X.w) X.A (call (.builtin "sorted") [.ref a]) (EP X pins σ Q) X.xe s := by
  have hlen := rv.length
  have hle : n ≤ sizeLine := by rw [← hn, hlen]; exact so.le
  have uu := ok.units
  refine Calls.call_function_entry kind_sorted plain_sorted entry_sorted (args_sorted1 _) ?_
  unfold Builtin.«sorted»
  refine wpAny_bind (m := checkCount "sorted" 1 1 _) (wpAny_pure ?_)
  refine wpAny_bind (W.kdu_collect (A := X.A.in1) K (I.ok.hd cl) hok hle fun h' tk acc hk hacc => ?_)
  have hal : acc.toList.length = n := by rw [Array.length_toList]; exact hacc.1
  have vals : Vals vs acc.toList := by
    have : ∀ (us : List Value) (xs : List V), us.length = xs.length → (∀ (j : Nat) (v : Value), us[j]? = some v → ∃ x, xs[j]? = some x ∧ RelV x v) → Vals xs us := by
      intro us
      induction us with
      | nil => intro xs h1 _; cases xs with | nil => exact .nil | cons _ _ => cases h1
      | cons u us ih =>
        intro xs h1 h2
        cases xs with
        | nil => cases h1
        | cons x xs =>
          obtain ⟨y, e, r⟩ := h2 0 u rfl
          have : x = y := by simpa using e
          subst this
          exact .cons r (ih xs (by simpa using h1) fun j v e => by
            obtain ⟨z, e1, r1⟩ := h2 (j + 1) v (by simpa using e)
            exact ⟨z, by simpa using e1, r1⟩)
    exact this _ _ (by rw [hal, hn]) fun j v e => hp j v (hacc.2 j v (by rw [← Array.getElem?_toList]; exact e))
  have I1 : Inv X pins σ H { s with heap := h', toks := tk } := I.kept hk
  refine wpAny_bind (wpAny_newList ?_ (by rw [hal]; exact hle))
  show wpAny _ _ _ _ _ { s with heap := h'.push (seqObj "list" acc.toList.toArray 0), toks := tk }
  have hoL : (h'.push (seqObj "list" acc.toList.toArray 0)).get? h'.objs.size = some (seqObj "list" acc.toList.toArray 0) := Heap.get?_push_size _ rfl
  have kp : ∀ b o, h'.get? b = some o → (h'.push (seqObj "list" acc.toList.toArray 0)).get? b = some o := fun b o e => Heap.get?_push_of_some _ e
  have es := zip_snd hlen
  have rp := rpA_zip rv
  have e1 := each_of rv vals
  have hbs : (vs.zip ds).length = ds.length := by rw [List.length_zip, hlen, Nat.min_self]
  have hm : ∀ p ∈ vs.zip ds, p.2 ∈ ds := fun p m => (List.of_mem_zip (a := p.1) (b := p.2) m).2
  have enc : (vs.zip ds).map (fun p : VD => pyOr p.2) = ds.map pyOr := by rw [← es, List.map_map]; simp [es]
  have er := each_reads (s := { s with heap := h', toks := tk }) ok I1 sf e1 fun p m => ⟨rp p m, so.py _ (hm p m)⟩
  refine wpAny_bind (wpAny_holding (W.list_sort_data (s := { s with heap := h'.push (seqObj "list" acc.toList.toArray 0), toks := tk }) (bs := vs.zip ds) (enc := fun p : VD => pyOr p.2) hoL e1
    (er.mono fun u p ⟨as, r⟩ => ⟨as, Reads.keeps kp r, fun m => by
      obtain ⟨o, e⟩ := reads_lt r _ m
      exact absurd (Heap.lt_size e) (Nat.lt_irrefl _)⟩) (by rw [enc]; exact so.al) (by rw [enc]; exact so.so) (by rw [hbs]; exact so.le) (fun b hb => by
      have := so.dp _ (hm b hb)
      show X.A.units + 1 + 1 + _ < _
      omega) fun out hl eo => ?_))
  · obtain ⟨c, hc'⟩ := sortedHeap_at (vs := acc.toList) (out := List.toArray out) hoL
    refine wpAny_pure ⟨_, rfl, ?_⟩
    have hold : ∀ b o, h'.get? b = some o → (sortedHeap (h'.push (seqObj "list" acc.toList.toArray 0)) h'.objs.size acc.toList (List.toArray out)).get? b = some o := fun b o e2 => by
      rw [sortedHeap_old (Nat.ne_of_lt (Heap.lt_size e2)) (Heap.lt_size (kp _ _ e2))]
      exact kp _ _ e2
    refine sorted_end (G := G) (s := { s with heap := h', toks := tk }) (tk := tk) I1 sf hold (Nat.le_refl _) hc' (by rw [hbs]; exact so.le) rp eo ?_
    rw [es]; exact h
/-! tuples that stand anyway -/
def adopt (F H : Hp) (bs : List Addr) : Hp := fun a => match F a with | some u => some u | none => if a ∈ bs then H a else none
theorem adopt_grow {F H : Hp} {bs : List Addr} (sf : Same F H) (h : ∀ b ∈ bs, ∃ xs, H b = some (.tup xs)) : Grow F H (adopt F H bs) H where
  sH := .refl _
  sF := fun a u e => by unfold adopt; rw [e]
  le := fun a u e => by
    unfold adopt at e
    split at e
    · rename_i w hw; cases e; exact sf _ _ hw
    · split at e
      · exact e
      · cases e
  hf := fun a e n => by
    unfold adopt
    rw [e]
    dsimp only
    split
    · rename_i hm
      obtain ⟨xs, hx⟩ := h a hm
      exact absurd hx (n.2 xs)
    · rfl
theorem adopt_at {F H : Hp} {bs : List Addr} {b : Addr} {xs : List V} (sf : Same F H) (hb : b ∈ bs) (e : H b = some (.tup xs)) : adopt F H bs b = some (.tup xs) := by
  unfold adopt
  cases ef : F b with
  | none => dsimp only; rw [if_pos hb]; exact e
  | some u => have := sf _ _ ef; rw [e] at this; cases this; rfl
def keyO : Key → D | .inl i => .int i | .inr s => .str s
theorem keyO_rp {F : Hp} : ∀ k : Key, Rp G.K G.mg F (kV k) (keyO k)
  | .inl _ => .int _
  | .inr _ => .str _
theorem keysO_rp {F : Hp} : ∀ ks : List Key, RpA G.K G.mg F (ks.map kV) (ks.map keyO)
  | [] => .nil
  | k :: ks => .cons (keyO_rp k) (keysO_rp ks)
theorem RpK.keys {K : PySem.W.Frag} {mg : Str → Option Value} {F : Hp} : ∀ {vs : List (Key × V)} {ds : List (Key × D)}, RpK K mg F vs ds → vs.map (·.1) = ds.map (·.1)
  | _, _, .nil => rfl
  | _, _, .cons _ t => by rw [List.map_cons, List.map_cons, RpK.keys t]
theorem RpT.keys {K : PySem.W.Frag} {mg : Str → Option Value} {F : Hp} : ∀ {vs : List (List Key × V)} {ds : List (List Key × D)}, RpT K mg F vs ds → vs.map (·.1) = ds.map (·.1)
  | _, _, .nil => rfl
  | _, _, .cons _ t => by rw [List.map_cons, List.map_cons, RpT.keys t]
/-- the keys of a dict, as data -/
def keysOf : D → List D
  | .dk ds => ds.map fun p => keyO p.1
  | .dt ds => ds.map fun p => .tup (p.1.map keyO)
  | .lst ds => ds
  | .tup ds => ds
  | _ => []
open Classical in
noncomputable def fSorted : List D → Option O
  | [.lst ds] => if SortOk ds then some (.ml ((sortD ds).map .v)) else none
  | [.dk ds] => if SortOk (keysOf (.dk ds)) then some (.ml ((sortD (keysOf (.dk ds))).map .v)) else none
  | [.dt ds] => if SortOk (keysOf (.dt ds)) then some (.ml ((sortD (keysOf (.dt ds))).map .v)) else none
  | _ => none
theorem KT_keys {H : Hp} : ∀ {kvs : List (List Key × V)} {xs : List (List Key × Addr × Value)}, Paired (fun (p : List Key × V) (q : List Key × Addr × Value) => p.1 = q.1 ∧ H q.2.1 = some (.tup (p.1.map kV)) ∧ RelV p.2 q.2.2) kvs xs →
    xs.map (fun q => H q.2.1) = kvs.map (fun p => some (.tup (p.1.map kV))) ∧ kvs.length = xs.length
  | _, _, .nil => ⟨rfl, rfl⟩
  | _, _, .cons h t => by
    obtain ⟨h1, h2⟩ := KT_keys t
    exact ⟨by rw [List.map_cons, List.map_cons, h1, h.2.1], by rw [List.length_cons, List.length_cons, h2]⟩
theorem tup_rp {F : Hp} : ∀ {kvs : List (List Key × V)} {bs : List Addr}, kvs.length = bs.length → (∀ (i : Nat) (b : Addr) (p : List Key × V), bs[i]? = some b → kvs[i]? = some p → F b = some (.tup (p.1.map kV))) → RpA G.K G.mg F (bs.map V.ref) (kvs.map fun p => D.tup (p.1.map keyO))
  | [], [], _, _ => .nil
  | p :: kvs, b :: bs, hl, h => .cons (.tup (h 0 b p rfl rfl) (keysO_rp p.1)) (tup_rp (by simpa using hl) fun i b p e1 e2 => h (i + 1) b p (by simpa using e1) (by simpa using e2))
theorem b_sorted : BltO G fSorted (.builtin "sorted") := by
  intro X Γ ok cl pins s σ H xs us Q I r h
  obtain ⟨F, ds, d, sf, hr, e, h⟩ := h
  unfold fSorted at e
  split at e
  · split at e
    · rename_i so
      cases e
      cases hr with
      | cons r1 r2 => cases r2; cases r1 with
        | lst h1 r1 =>
          obtain ⟨u, rfl, ru⟩ := vals1 r
          cases ru
          exact sorted_list ok I sf h1 r1 so h
    · cases e
  · split at e
    · rename_i so
      cases e
      cases hr with
      | cons r1 r2 => cases r2; cases r1 with
        | @dk a kvs ds' h1 r1 =>
          rename_i ds
          obtain ⟨u, rfl, ru⟩ := vals1 r
          cases ru
          obtain ⟨z, lo, vs, rel, dd⟩ := dk_rd I.hok (Same.rd sf h1)
          obtain ⟨ep, hat⟩ := dd.dictAt
          have hk : kvs.map (fun p => keyO p.1) = keysOf (.dk ds) := by
            have e := congrArg (List.map keyO) r1.keys
            rw [List.map_map, List.map_map] at e
            exact e
          refine sorted_keys (vs := kvs.map fun p => kV p.1) ok cl I sf (W.kdl_dict (knd := mixKind X.prog X.w) (kvs := vs) (ep := ep) lo) hat (by rw [List.length_map]; exact rel.length) (fun j v hp => ?_) (ds := keysOf (.dk ds)) ?_ so h
          · obtain ⟨k, x, e1, e2⟩ := hp
            have e3 : (vs.map (·.1))[j]? = some k := by rw [List.getElem?_map, e1]; rfl
            rw [← rel.keys, List.getElem?_map] at e3
            cases e4 : kvs[j]? with
            | none => rw [e4] at e3; cases e3
            | some p =>
              rw [e4] at e3; cases e3
              refine ⟨kV p.1, by rw [List.getElem?_map, e4]; rfl, ?_⟩
              rcases keyIs_shape e2 with ⟨i, t, ek, rfl⟩ | ⟨y, t, ek, rfl⟩
              · have ek : p.1 = _ := ek
                rw [ek]; exact ⟨t, rfl⟩
              · have ek : p.1 = _ := ek
                rw [ek]; exact ⟨t, rfl⟩
          · rw [← hk]
            have := keysO_rp (G := G) (F := F) (kvs.map (·.1))
            rw [List.map_map, List.map_map] at this
            exact this
    · cases e
  · split at e
    · rename_i so
      cases e
      cases hr with
      | cons r1 r2 => cases r2; cases r1 with
        | @dt a kvs ds' h1 r1 =>
          rename_i ds
          obtain ⟨u, rfl, ru⟩ := vals1 r
          cases ru
          obtain ⟨z, lo, xs, rel, o, es, ep, ho, hx, hdat, hes, hnd⟩ := Rd.ok (Same.rd sf h1) I.hok
          obtain ⟨k1, k2⟩ := KT_keys rel
          have hsz : es.size = xs.length := by rw [← Array.length_toList, hes, List.length_map]
          have at1 : ∀ (i : Nat) (b : Addr) (p : List Key × V), (xs.map fun q => q.2.1)[i]? = some b → kvs[i]? = some p → H b = some (.tup (p.1.map kV)) := fun i b p e1 e2 => by
            have e3 := congrArg (fun l => l[i]?) k1
            simp only [List.getElem?_map, e2] at e3
            rw [List.getElem?_map] at e1
            cases e4 : xs[i]? with
            | none => rw [e4] at e1; cases e1
            | some q =>
              rw [e4] at e1 e3; cases e1
              simpa using e3
          have gr := adopt_grow (bs := xs.map fun q => q.2.1) sf fun b hb => by
            obtain ⟨i, hi⟩ := List.getElem?_of_mem hb
            have hlt := (List.getElem?_eq_some_iff.mp hi).1
            rw [List.length_map, ← k2] at hlt
            exact ⟨_, at1 i b _ hi (List.getElem?_eq_getElem hlt)⟩
          have hk : kvs.map (fun p => D.tup (p.1.map keyO)) = keysOf (.dt ds) := by
            have e := congrArg (List.map fun l : List Key => D.tup (l.map keyO)) r1.keys
            rw [List.map_map, List.map_map] at e
            exact e
          refine sorted_keys (F := adopt F H (xs.map fun q => q.2.1)) (vs := (xs.map fun q => q.2.1).map V.ref) ok cl I gr.le (KdlSrc.rawDict (prog := X.prog) (w := X.w) (es := es) (ep := ep) lo) ⟨o, ho, hx, hdat⟩ (by rw [List.length_map, List.length_map, hsz]) (fun j v hp => ?_) (ds := keysOf (.dt ds)) ?_ so
            fun v C F' H' g ow nC fC => h v C F' H' (gr.trans g) ow nC fC
          · obtain ⟨hi, rfl⟩ := hp
            have hj : j < xs.length := by omega
            refine ⟨.ref xs[j].2.1, by rw [List.getElem?_map, List.getElem?_map, List.getElem?_eq_getElem hj]; rfl, ?_⟩
            have e1 : es.toList[j]? = some (entryOfKey (tupleKind (mixKind X.prog X.w)) xs[j]) := by rw [hes, List.getElem?_map, List.getElem?_eq_getElem hj]; rfl
            have e2 : es[j] = entryOfKey (tupleKind (mixKind X.prog X.w)) xs[j] := by
              rw [Array.getElem?_toList, Array.getElem?_eq_getElem hi] at e1
              exact Option.some.inj e1
            rw [e2]; rfl
          · rw [← hk]
            exact tup_rp (by rw [List.length_map]; exact k2) fun i b p e1 e2 => adopt_at sf (List.mem_of_getElem? e1) (at1 i b p e1 e2)
    · cases e
  · cases e
end
end Eng

end
section
set_option Elab.async false
set_option linter.all false
set_option maxRecDepth 100000
set_option maxHeartbeats 4000000
/-! the engine, part 14: dicts that change, names that grow, numbers as texts -/
namespace Eng
open PySem PySem.Spec PyProof.Rows L2
section
variable {G : Gd} {Γ : Gm} {W : WX} {B : Bd} {F0 F H : Hp} {L : Sl} {A : List Addr} {σ : L2.St}
/-! ### {} -/
def mNewK : Sl → R O := fun _ => .ok (.mk [])
def mNewT : Sl → R O := fun _ => .ok (.mq [])
theorem co_newK {pos : Pos} : CO G Γ (.Dict [] [] pos) mNewK := by
  refine fun X ok W tk => PE.imp pe_dnewK fun σ H Q h => ?_
  obtain ⟨B, F0, L, F, A, R, h⟩ := h
  intro p hp
  refine h F (upd H p (.dK [])) ⟨fun a u e => ?_, .refl _, fun a u e => ?_, fun _ e _ => e⟩ (.ref p) [p] (.mk upd_same .nil) (by simp) (fun a m => by rw [List.mem_singleton.mp m]; exact ⟨R.sf.free hp, hp⟩)
  · rw [upd_ne (ne_of_none e hp)]; exact e
  · rw [upd_ne (ne_of_none (R.sf _ _ e) hp)]; exact R.sf _ _ e
theorem co_newT {pos : Pos} : CO G Γ (.Dict [] [] pos) mNewT := by
  refine fun X ok W tk => PE.imp pe_dnewT fun σ H Q h => ?_
  obtain ⟨B, F0, L, F, A, R, h⟩ := h
  intro p hp
  refine h F (upd H p (.dT [])) ⟨fun a u e => ?_, .refl _, fun a u e => ?_, fun _ e _ => e⟩ (.ref p) [p] (.mq upd_same .nil) (by simp) (fun a m => by rw [List.mem_singleton.mp m]; exact ⟨R.sf.free hp, hp⟩)
  · rw [upd_ne (ne_of_none e hp)]; exact e
  · rw [upd_ne (ne_of_none (R.sf _ _ e) hp)]; exact R.sf _ _ e
/-! ### d[k] = v -/
def putO {κ : Type} [DecidableEq κ] (os : List (κ × O)) (k : κ) (o : O) : List (κ × O) := if (os.any fun kv => decide (kv.1 = k)) = true then os.map (fun kv => if kv.1 = k then (kv.1, o) else kv) else os ++ [(k, o)]
section
variable {tg : Tg} {K : PySem.W.Frag} {mg : Str → Option Value}
theorem OwK.keys : ∀ {vs : List (Key × V)} {os : List (Key × O)} {A : List Addr}, OwK tg K mg F H vs os A → vs.map (·.1) = os.map (·.1)
  | _, _, _, .nil => rfl
  | _, _, _, .cons _ t => by rw [List.map_cons, List.map_cons, OwK.keys t]
theorem OwT.keys : ∀ {vs : List (List Key × V)} {os : List (List Key × O)} {A : List Addr}, OwT tg K mg F H vs os A → vs.map (·.1) = os.map (·.1)
  | _, _, _, .nil => rfl
  | _, _, _, .cons _ t => by rw [List.map_cons, List.map_cons, OwT.keys t]
theorem any_fst {κ α β : Type} [DecidableEq κ] {k : κ} {xs : List (κ × α)} {ys : List (κ × β)} (h : xs.map (·.1) = ys.map (·.1)) : (xs.any fun kv => decide (kv.1 = k)) = ys.any fun kv => decide (kv.1 = k) := by
  have e1 : (xs.any fun kv => decide (kv.1 = k)) = (xs.map (·.1)).any fun x => decide (x = k) := by rw [List.any_map]; rfl
  have e2 : (ys.any fun kv => decide (kv.1 = k)) = (ys.map (·.1)).any fun x => decide (x = k) := by rw [List.any_map]; rfl
  rw [e1, e2, h]
theorem OwK.map {k : Key} {v : V} {d : D} (r : Rp K mg F v d) : ∀ {vs : List (Key × V)} {os : List (Key × O)} {A : List Addr}, OwK tg K mg F H vs os A →
    ∃ A', OwK tg K mg F H (vs.map fun kv => if kv.1 = k then (kv.1, v) else kv) (os.map fun kv => if kv.1 = k then (kv.1, .v d) else kv) A' ∧ A'.Sublist A
  | _, _, _, .nil => ⟨[], .nil, List.Sublist.refl _⟩
  | _, _, _, .cons (x := x) (A := A1) (B := A2) q t => by
    obtain ⟨A', h1, h2⟩ := OwK.map r t
    by_cases e : x = k
    · refine ⟨[] ++ A', ?_, (List.nil_append A' ▸ h2.trans (List.sublist_append_right _ _))⟩
      rw [List.map_cons, List.map_cons, if_pos e, if_pos e]
      exact .cons (.v r) h1
    · refine ⟨A1 ++ A', ?_, (List.Sublist.refl _).append h2⟩
      rw [List.map_cons, List.map_cons, if_neg e, if_neg e]
      exact .cons q h1
theorem OwT.map {k : List Key} {v : V} {d : D} (r : Rp K mg F v d) : ∀ {vs : List (List Key × V)} {os : List (List Key × O)} {A : List Addr}, OwT tg K mg F H vs os A →
    ∃ A', OwT tg K mg F H (vs.map fun kv => if kv.1 = k then (kv.1, v) else kv) (os.map fun kv => if kv.1 = k then (kv.1, .v d) else kv) A' ∧ A'.Sublist A
  | _, _, _, .nil => ⟨[], .nil, List.Sublist.refl _⟩
  | _, _, _, .cons (x := x) (A := A1) (B := A2) q t => by
    obtain ⟨A', h1, h2⟩ := OwT.map r t
    by_cases e : x = k
    · refine ⟨[] ++ A', ?_, (List.nil_append A' ▸ h2.trans (List.sublist_append_right _ _))⟩
      rw [List.map_cons, List.map_cons, if_pos e, if_pos e]
      exact .cons (.v r) h1
    · refine ⟨A1 ++ A', ?_, (List.Sublist.refl _).append h2⟩
      rw [List.map_cons, List.map_cons, if_neg e, if_neg e]
      exact .cons q h1
theorem OwK.snoc {k : Key} {v : V} {d : D} (r : Rp K mg F v d) : ∀ {vs : List (Key × V)} {os : List (Key × O)} {A : List Addr}, OwK tg K mg F H vs os A → OwK tg K mg F H (vs ++ [(k, v)]) (os ++ [(k, .v d)]) A
  | _, _, _, .nil => OwK.cons (A := []) (B := []) (.v r) .nil
  | _, _, _, .cons q t => .cons q (OwK.snoc r t)
theorem OwT.snoc {k : List Key} {v : V} {d : D} (r : Rp K mg F v d) : ∀ {vs : List (List Key × V)} {os : List (List Key × O)} {A : List Addr}, OwT tg K mg F H vs os A → OwT tg K mg F H (vs ++ [(k, v)]) (os ++ [(k, .v d)]) A
  | _, _, _, .nil => OwT.cons (A := []) (B := []) (.v r) .nil
  | _, _, _, .cons q t => .cons q (OwT.snoc r t)
theorem OwK.put {k : Key} {v : V} {d : D} (r : Rp K mg F v d) {vs : List (Key × V)} {os : List (Key × O)} {A : List Addr} (h : OwK tg K mg F H vs os A) : ∃ A', OwK tg K mg F H (putK vs k v) (putO os k (.v d)) A' ∧ A'.Sublist A := by
  unfold putK putO
  rw [any_fst h.keys]
  split
  · exact h.map r
  · exact ⟨A, h.snoc r, List.Sublist.refl _⟩
theorem OwT.put {k : List Key} {v : V} {d : D} (r : Rp K mg F v d) {vs : List (List Key × V)} {os : List (List Key × O)} {A : List Addr} (h : OwT tg K mg F H vs os A) : ∃ A', OwT tg K mg F H (putK vs k v) (putO os k (.v d)) A' ∧ A'.Sublist A := by
  unfold putK putO
  rw [any_fst h.keys]
  split
  · exact h.map r
  · exact ⟨A, h.snoc r, List.Sublist.refl _⟩
theorem OwK.length {vs : List (Key × V)} {os : List (Key × O)} {A : List Addr} (h : OwK tg K mg F H vs os A) : vs.length = os.length := by
  have := congrArg List.length h.keys
  simpa using this
theorem OwT.length {vs : List (List Key × V)} {os : List (List Key × O)} {A : List Addr} (h : OwT tg K mg F H vs os A) : vs.length = os.length := by
  have := congrArg List.length h.keys
  simpa using this
end
/-- a dict with an entry put -/
def dput (o : O) (k v : D) : Option O := match o with
  | .mk os => (keyD k).bind fun j => if os.length < sizeLine then some (.mk (putO os j (.v v))) else none
  | .mq os => match k with | .tup ks => (keysD ks).bind fun j => if os.length < sizeLine then some (.mq (putO os j (.v v))) else none | _ => none
  | _ => none
def sPut (i : Nat) (mk mv : Sl → R D) : Sl → RS := sBind mv fun v L => match L[i]? with
  | some (some o) => sBind mk (fun k L => match dput o k v with | some o' => .next (L.set i (some o')) | none => .stuck) L
  | _ => .stuck
theorem tr_put (R : Rl G B F0 L F A σ H) {i : Nat} {o o' : O} {k v : D} {y z : V} {D' : Ends} (e : L[i]? = some (some o)) (ed : dput o k v = some o') (rk : Rp G.K G.mg F y k) (rv : Rp G.K G.mg F z v) (h : ∀ σ' H', Rel G B F0 F (L.set i (some o')) σ' H' → D'.nx σ' H') :
    ∃ x, σ[i]? = some (some x) ∧ ∃ a H4, x = .ref a ∧ DPut H a y z H4 ∧ D'.nx σ H4 := by
  obtain ⟨x, Ai, k1, k2, k3, k4, k5⟩ := R.mut e
  refine ⟨x, k1, ?_⟩
  cases o with
  | v => cases ed
  | ml => cases ed
  | mt => cases ed
  | mi => cases ed
  | pin => cases ed
  | me => cases ed
  | mk os =>
    obtain ⟨j, e1, e2⟩ := bind_some (show ((keyD k).bind fun j => if os.length < sizeLine then some (O.mk (putO os j (.v v))) else none) = some o' from ed)
    split at e2
    · rename_i hl
      cases e2
      cases k2 with
      | @mk a kvs os A1 hH ro =>
        obtain ⟨q1, q2⟩ := List.nodup_cons.mp k4
        obtain rfl := rk.keyD e1
        have u1 := OwK.mono (H' := upd H a (.dK (putK kvs j z))) (.refl _) (fun x m => upd_ne (fun w => q1 (w ▸ m))) ro
        obtain ⟨A', w1, w2⟩ := u1.put (k := j) rv
        obtain ⟨A2, R2⟩ := k5 (upd H a (.dK (putK kvs j z))) (.mk (putO os j (.v v))) (a :: A') rfl (fun x hx _ => upd_ne (fun w => hx (by rw [w]; exact List.mem_cons_self))) (.mk upd_same w1)
          (List.nodup_cons.mpr ⟨fun m => q1 (w2.subset m), w2.nodup q2⟩) (fun x m => .inl (by
            rcases List.mem_cons.mp m with rfl | m
            · exact List.mem_cons_self
            · exact List.mem_cons_of_mem _ (w2.subset m)))
        exact ⟨a, _, rfl, DPut.k hH (by rw [ro.length]; exact hl), h _ _ ⟨F, A2, .refl _, R2⟩⟩
    · cases e2
  | mq os =>
    cases k with
    | tup ks =>
      obtain ⟨j, e1, e2⟩ := bind_some (show ((keysD ks).bind fun j => if os.length < sizeLine then some (O.mq (putO os j (.v v))) else none) = some o' from ed)
      split at e2
      · rename_i hl
        cases e2
        cases k2 with
        | @mq a kvs os A1 hH ro =>
          obtain ⟨q1, q2⟩ := List.nodup_cons.mp k4
          cases rk with
          | tup hT rt =>
            obtain rfl := rt.keysD e1
            have u1 := OwT.mono (H' := upd H a (.dT (putK kvs j z))) (.refl _) (fun x m => upd_ne (fun w => q1 (w ▸ m))) ro
            obtain ⟨A', w1, w2⟩ := u1.put (k := j) rv
            obtain ⟨A2, R2⟩ := k5 (upd H a (.dT (putK kvs j z))) (.mq (putO os j (.v v))) (a :: A') rfl (fun x hx _ => upd_ne (fun w => hx (by rw [w]; exact List.mem_cons_self))) (.mq upd_same w1)
              (List.nodup_cons.mpr ⟨fun m => q1 (w2.subset m), w2.nodup q2⟩) (fun x m => .inl (by
                rcases List.mem_cons.mp m with rfl | m
                · exact List.mem_cons_self
                · exact List.mem_cons_of_mem _ (w2.subset m)))
            exact ⟨a, _, rfl, DPut.t hH (R.sf _ _ hT) (by rw [ro.length]; exact hl), h _ _ ⟨F, A2, .refl _, R2⟩⟩
      · cases e2
    | _ => cases ed
theorem cs_put {i : Nat} {x : Str} {k v : Expr} {mk mv : Sl → R D} {p pos' pos : Pos} (hb : varB Γ i x = true) (hn : noComp v = true) (hk : CE G Γ k mk) (hv : CE G Γ v mv) : CS G Γ (.Assign [.Subscript (.Name x p) k pos'] v pos) (sPut i mk mv) := by
  unfold varB at hb
  obtain ⟨h1, h4⟩ := and2 hb
  obtain ⟨h1, h3⟩ := and2 h1
  obtain ⟨h1, h2⟩ := and2 h1
  refine fun X ok W tk => PS.imp (ps_dput (by have := ok.units; omega) (pe_var (i := i) (by rw [ok.N]; exact of_decide_eq_true h1) (by rw [ok.sc]; exact vis_of h2) (by simpa using h3) (by simpa using h4)) (hk X ok W tk) (hv X ok W tk) (sw_none hn _ _ _)) fun D σ H h => ?_
  obtain ⟨B, F0, L, F, A, R, h⟩ := h
  refine ⟨B, F0, L, F, A, R, (pS.first R h).imp R fun dv F1 H1 s1 R1 g1 h1 z rz => ?_⟩
  cases e : L[i]? with
  | none => rw [e] at h1; exact h1.elim
  | some u =>
    cases u with
    | none => rw [e] at h1; exact h1.elim
    | some o =>
      rw [e] at h1
      obtain ⟨x, A1, Ai, A2, q1, q2, _⟩ := R1.os.get e
      refine ⟨x, q1, B, F0, L, F1, A, R1, (pS.first R1 h1).imp R1 fun dk F2 H2 s2 R2 g2 h2 y ry => ?_⟩
      cases ed : dput o dk dv with
      | none => rw [ed] at h2; exact h2.elim
      | some o' =>
        rw [ed] at h2
        obtain ⟨x', q1', a, H4, ex, hp, hd⟩ := tr_put (D' := D) R2 e ed ry (rz.mono s2) h2
        rw [q1] at q1'; cases q1'
        exact ⟨a, H4, ex, hp, hd⟩
/-! ### d.get(k), d.get(k, x) -/
def isDct : D → Bool | .dk _ => true | .dt _ => true | _ => false
theorem isDct_of {K : PySem.W.Frag} {mg : Str → Option Value} {F H : Hp} {v : V} {d : D} (sf : Same F H) (r : Rp K mg F v d) (h : isDct d = true) : ∃ a, v = .ref a ∧ IsD H a := by
  cases r <;> first | (cases h; done) | skip
  · rename_i h1 _; exact ⟨_, rfl, .inl ⟨_, Same.rd sf h1⟩⟩
  · rename_i h1 _; exact ⟨_, rfl, .inr ⟨_, Same.rd sf h1⟩⟩
def mGet1 (a k : Sl → R D) : Sl → R D := fun L => (a L).bind fun d => if isDct d = true then (k L).bind fun y => lift ((getD? d y).map fun o => o.getD .non) else .stuck
def mGet2 (a k x : Sl → R D) : Sl → R D := fun L => (a L).bind fun d => if isDct d = true then (k L).bind fun y => (x L).bind fun z => lift ((getD? d y).map fun o => o.getD z) else .stuck
theorem ce_get1 {o e : Expr} {ma mk : Sl → R D} {apos pos : Pos} (hc : (attrB o && (apos.endLine == pos.line) && nst e) = true) (ho : CE G Γ o ma) (hk : CE G Γ e mk) : CE G Γ (.Call (.Attribute o "get" apos) [e] [] pos) (mGet1 ma mk) := by
  obtain ⟨hc, hn⟩ := and2 hc
  obtain ⟨ha, hl⟩ := and2 hc
  refine fun X ok W tk => PE.imp (pe_dget1 (by have := ok.units; omega) (ho X ok W tk) (hk X ok W tk) ⟨attr_base ha _ _ _, few1 hn, hl, by rw [star1 hn]; rfl⟩) fun σ H Q h => ?_
  obtain ⟨B, F0, L, F, A, R, h⟩ := h
  refine ⟨B, F0, L, F, A, R, (pG.bind h).imp R fun d F1 H1 s1 R1 g1 h1 v rv => ?_⟩
  split at h1
  · rename_i hd
    obtain ⟨a, rfl, iD⟩ := isDct_of R1.sf rv hd
    refine ⟨a, rfl, iD, B, F0, L, F1, A, R1, (pG.bind h1).imp R1 fun y F2 H2 s2 R2 g2 h2 w rw1 => ?_⟩
    cases eg : getD? d y with
    | none => rw [eg] at h2; exact h2.elim
    | some o =>
      rw [eg] at h2
      obtain ⟨a', r, ea, g, c⟩ := getD_of R2.sf (rv.mono s2) rw1 eg
      cases ea
      refine ⟨r, g, ?_⟩
      have h2 : ∀ F' H', Grow F2 H2 F' H' → ∀ v, Rp G.K G.mg F' v (o.getD .non) → Q v H' := h2
      rcases c with ⟨rfl, rfl⟩ | ⟨z, w', rfl, rfl, rz⟩
      · exact h2 F2 H2 (.refl R2.sf) _ .non
      · exact h2 F2 H2 (.refl R2.sf) _ rz
  · exact h1.elim
theorem few2 {e f : Expr} {X : Cx} {cpos : Pos} (h : nst e = true) (h' : nst f = true) : ((backTo cpos (starEach [e, f] X.env)).all (fun x => !x.1) && (backToKw cpos (keywordEach [] X.env)).all (fun x => x.1.isSome)
    && decide (([e, f] : List Expr).length + ([] : List Keyword).length + (if ([] : List Keyword).isEmpty then 0 else 1) < 30)) = true := by
  rw [star2 h h']; rfl
theorem ce_get2 {o e f : Expr} {ma mk mx : Sl → R D} {apos pos : Pos} (hc : (attrB o && (apos.endLine == pos.line) && nst e && nst f) = true) (ho : CE G Γ o ma) (hk : CE G Γ e mk) (hx : CE G Γ f mx) : CE G Γ (.Call (.Attribute o "get" apos) [e, f] [] pos) (mGet2 ma mk mx) := by
  obtain ⟨hc, hn'⟩ := and2 hc
  obtain ⟨hc, hn⟩ := and2 hc
  obtain ⟨ha, hl⟩ := and2 hc
  refine fun X ok W tk => PE.imp (pe_dget2 (by have := ok.units; omega) (ho X ok W tk) (hk X ok W tk) (hx X ok W tk) ⟨attr_base ha _ _ _, few2 hn hn', hl, by rw [star2 hn hn']; rfl⟩) fun σ H Q h => ?_
  obtain ⟨B, F0, L, F, A, R, h⟩ := h
  refine ⟨B, F0, L, F, A, R, (pG.bind h).imp R fun d F1 H1 s1 R1 g1 h1 v rv => ?_⟩
  split at h1
  · rename_i hd
    obtain ⟨a, rfl, iD⟩ := isDct_of R1.sf rv hd
    refine ⟨a, rfl, iD, B, F0, L, F1, A, R1, (pG.bind h1).imp R1 fun y F2 H2 s2 R2 g2 h2 w rw1 => ?_⟩
    refine ⟨B, F0, L, F2, A, R2, (pG.bind h2).imp R2 fun dz F3 H3 s3 R3 g3 h3 z rz => ?_⟩
    cases eg : getD? d y with
    | none => rw [eg] at h3; exact h3.elim
    | some o =>
      rw [eg] at h3
      obtain ⟨a', r, ea, g, c⟩ := getD_of R3.sf (rv.mono (s2.trans s3)) (rw1.mono s3) eg
      cases ea
      refine ⟨r, g, ?_⟩
      have h3 : ∀ F' H', Grow F3 H3 F' H' → ∀ v, Rp G.K G.mg F' v (o.getD dz) → Q v H' := h3
      rcases c with ⟨rfl, rfl⟩ | ⟨z', w', rfl, rfl, rz'⟩
      · exact h3 F3 H3 (.refl R3.sf) _ rz
      · exact h3 F3 H3 (.refl R3.sf) _ rz'
  · exact h1.elim
/-! ### x += e -/
def ipV (G : Gd) (f : D → D → Option D) : TIp := fun x y H Q => ∃ F dx dy d, Same F H ∧ Rp G.K G.mg F x dx ∧ Rp G.K G.mg F y dy ∧ f dx dy = some d ∧ ∀ v F' H', Grow F H F' H' → Rp G.K G.mg F' v d → Q v H'
def Ip2 (G : Gd) (op : Operator) (f : D → D → Option D) : Prop := ∀ (X : Cx) (Γ : Gm), Γ.Ok G X → PIp X op (ipV G f)
def fAddI : D → D → Option D | .int i, .int j => some (.int (i + j)) | _, _ => none
theorem i_add : Ip2 G .Add fAddI := by
  intro X Γ ok pins s σ H x y v u Q I rx ry h
  obtain ⟨F, dx, dy, d, sf, hx, hy, e, h⟩ := h
  unfold fAddI at e
  split at e
  · cases e; cases hx; cases hy
    exact ip_add pins s σ H _ _ v u Q I rx ry ⟨_, _, rfl, rfl, h _ F H (.refl sf) (.int _)⟩
  · cases e
theorem i_sub : Ip2 G .Sub fSub := by
  intro X Γ ok pins s σ H x y v u Q I rx ry h
  obtain ⟨F, dx, dy, d, sf, hx, hy, e, h⟩ := h
  unfold fSub at e
  split at e
  · cases e; cases hx; cases hy
    exact ip_sub pins s σ H _ _ v u Q I rx ry ⟨_, _, rfl, rfl, h _ F H (.refl sf) (.int _)⟩
  · cases e
def sAug (i : Nat) (f : D → D → Option D) (m : Sl → R D) : Sl → RS := fun L => match L[i]? with
  | some (some (.v x)) => sBind m (fun y L => match f x y with | some z => if okSet L i = true then .next (L.set i (some (.v z))) else .stuck | none => .stuck) L
  | _ => .stuck
theorem cs_aug {i : Nat} {x : Str} {op : Operator} {f : D → D → Option D} {e : Expr} {m : Sl → R D} {p pos : Pos} (hs : stB Γ i x = true) (ho : Ip2 G op f) (he : CE G Γ e m) : CS G Γ (.AugAssign (.Name x p) op e pos) (sAug i f m) := by
  unfold stB at hs
  obtain ⟨h1, h3⟩ := and2 hs
  obtain ⟨h1, h2⟩ := and2 h1
  refine fun X ok W tk => PS.imp (ps_aug (i := i) (by rw [ok.N]; exact ok.nd) (by rw [ok.N]; exact of_decide_eq_true h1) (by rw [ok.sc]; exact loc_of h2) (he X ok W tk) (ho X Γ ok) (ok.fnl x h3)) fun D σ H h => ?_
  obtain ⟨B, F0, L, F, A, R, h⟩ := h
  unfold sAug at h
  split at h
  · rename_i dx e0
    obtain ⟨v, A1, Ai, A2, q1, q2, _⟩ := R.os.get e0
    cases q2 with
    | v rx =>
      refine ⟨v, q1, B, F0, L, F, A, R, (pS.first R h).imp R fun dy F1 H1 s1 R1 g1 h1 w rw1 => ?_⟩
      cases ef : f dx dy with
      | none => rw [ef] at h1; exact h1.elim
      | some d =>
        rw [ef] at h1
        dsimp only at h1
        split at h1
        · rename_i hok
          refine ⟨F1, dx, dy, d, R1.sf, rx.mono s1, rw1, ef, fun v F' H' g r => ?_⟩
          obtain ⟨A', R'⟩ := (R1.gr g).set (okSet_of hok).1 (okSet_of hok).2 r
          exact h1 _ _ ⟨F', A', g.sF, R'⟩
        · exact h1.elim
  · exact h.elim
/-! ### a, b = x, y -/
def sPar (i j : Nat) (a b : Sl → R D) : Sl → RS := sBind a fun x => sBind b fun y L => if okSet L i = true ∧ okSet L j = true then .next ((L.set i (some (.v x))).set j (some (.v y))) else .stuck
def parB (Γ : Gm) (i j : Nat) (x y : Str) (a b : Expr) (px py : Pos) (pt : Pos) : Bool := Γ.cm && stB Γ i x && stB Γ j y && decide (i ≠ j) && (match Γ.sc.names.lookup x with | some .local => true | _ => false) && (match Γ.sc.names.lookup y with | some .local => true | _ => false) && nst a && nst b && decide (x ≠ y) &&
  (px.line == py.line) && !([a, b].all (foldedForSure 8)) && !([a, b].all (constantsAlone 8))
theorem kindLocal {X : Cx} {sc : Scope} {x : Str} (hs : X.env.scope = sc) (h : (match sc.names.lookup x with | some .local => true | _ => false) = true) : X.env.kindOf x = some .local := by
  unfold Env.kindOf
  rw [hs]
  exact lookLocal h
def notStar : Expr → Bool | .Starred .. => true | _ => false
theorem notStar_of {e : Expr} (h : nst e = true) : notStar e = false := by cases e <;> first | rfl | cases h
theorem par_sw {X : Cx} (ok : Γ.Ok G X) {x y : Str} {a b : Expr} {px py pt pt2 : Pos} {kt k2} (hx : X.env.kindOf x = some .local) (hy : X.env.kindOf y = some .local) (ha : nst a = true) (hb : nst b = true) (hxy : x ≠ y) (hl : (px.line == py.line) = true)
    (h1 : [a, b].all (foldedForSure 8) = false) (h2 : [a, b].all (constantsAlone 8) = false) : swappedStores [.Tuple [.Name x px, .Name y py] kt pt] (.Tuple [a, b] k2 pt2) X.env = pure (some [x, y]) := by
  have hbk : X.env.blockKind = .function := by unfold Env.blockKind; rw [ok.kind]; rfl
  have hs : ([a, b].any notStar) = false := by simp [notStar_of ha, notStar_of hb]
  have e1 : (some NameKind.local == some NameKind.local) = true := by decide
  have e2 : (py.line == px.line) = true := by simpa using (beq_iff_eq.mp hl).symm
  have e3 : (x == y) = false := by simpa using hxy
  have e4 : (y == x) = false := by simpa using (Ne.symm hxy)
  have hd : [x, y].eraseDups = [x, y] := by simp [List.eraseDups, List.eraseDupsBy, List.eraseDupsBy.loop, e4]
  unfold swappedStores
  simp only [hbk]
  simp only [List.length_cons, List.length_nil, Bool.false_eq_true, if_false, h1, h2, List.filterMap_cons, hx, hy, Expr.pos, List.head?_cons, Option.map_some, Option.getD_some, e1, e2, beq_self_eq_true, Bool.and_self, if_true, List.filterMap_nil, hd]
  rw [if_neg (by decide), if_neg (fun z => by
    rw [List.any_eq_true] at z
    obtain ⟨e, he, q⟩ := z
    have hne : nst e = true := by
      rcases List.mem_cons.mp he with r | r
      · rw [r]; exact ha
      · rw [List.mem_singleton.mp r]; exact hb
    split at q
    · cases hne
    · cases q), if_neg (by decide)]
theorem not_of {b : Bool} (h : (!b) = true) : b = false := by cases b <;> first | rfl | cases h
theorem cs_par {i j : Nat} {x y : Str} {a b : Expr} {ma mb : Sl → R D} {px py pt pt2 pos : Pos} {kt k2} (hc : parB Γ i j x y a b px py pt = true) (ha : CE G Γ a ma) (hb : CE G Γ b mb) : CS G Γ (.Assign [.Tuple [.Name x px, .Name y py] kt pt] (.Tuple [a, b] k2 pt2) pos) (sPar i j ma mb) := by
  unfold parB at hc
  obtain ⟨hc, c11⟩ := and2 hc
  obtain ⟨hc, c10⟩ := and2 hc
  obtain ⟨hc, c9⟩ := and2 hc
  obtain ⟨hc, c8⟩ := and2 hc
  obtain ⟨hc, c7⟩ := and2 hc
  obtain ⟨hc, c6⟩ := and2 hc
  obtain ⟨hc, c5⟩ := and2 hc
  obtain ⟨hc, c4⟩ := and2 hc
  obtain ⟨hc, c3⟩ := and2 hc
  obtain ⟨c1, c2⟩ := and2 hc
  obtain ⟨c0, c1⟩ := and2 c1
  unfold stB at c1 c2
  refine fun X ok W tk => PS.imp (ps_par (i := i) (j := j) (ok.calm c0) (by rw [ok.N]; exact ok.nd) (by rw [ok.N]; exact of_decide_eq_true (and2 (and2 c1).1).1) (by rw [ok.N]; exact of_decide_eq_true (and2 (and2 c2).1).1) (of_decide_eq_true c3) (by rw [ok.sc]; exact lookLocal c4) (by rw [ok.sc]; exact lookLocal c5)
    (pa_cons (ha X ok W tk) (pa_cons (hb X ok W tk) pa_nil (star_cons c7)) (star_cons c6)) (par_sw ok (kindLocal ok.sc c4) (kindLocal ok.sc c5) c6 c7 (of_decide_eq_true c8) c9 (not_of c10) (not_of c11)) rfl) fun D σ H h => ?_
  obtain ⟨B, F0, L, F, A, R, h⟩ := h
  refine ⟨B, F0, L, F, A, R, (pS.first R h).imp R fun dx F1 H1 s1 R1 g1 h1 v rv => ?_⟩
  refine ⟨B, F0, L, F1, A, R1, (pS.first R1 h1).imp R1 fun dy F2 H2 s2 R2 g2 h2 w rw1 => ?_⟩
  split at h2
  · rename_i hok
    obtain ⟨A', R3⟩ := R2.set (okSet_of hok.1).1 (okSet_of hok.1).2 (rv.mono s2)
    have hok2 : okSet (L.set i (some (.v dx))) j = true := by
      have z := hok.2
      unfold okSet isPin at z ⊢
      rw [List.length_set, List.getElem?_set_ne (of_decide_eq_true c3)]; exact z
    obtain ⟨A'', R4⟩ := R3.set (okSet_of hok2).1 (okSet_of hok2).2 rw1
    exact ⟨v, w, rfl, h2 _ _ ⟨F2, A'', .refl _, R4⟩⟩
  · exact h2.elim
/-! ### tuple * int -/
def fRep : D → D → Option D
  | .tup ds, .int k => if ds ≠ [] ∧ 2 ≤ k ∧ k ≤ 1000 ∧ ds.length ≤ 1000 then some (.tup (List.replicate k.toNat ds).flatten) else none
  | _, _ => none
theorem RpA.rep {K : PySem.W.Frag} {mg : Str → Option Value} {F : Hp} {vs : List V} {ds : List D} (r : RpA K mg F vs ds) : ∀ n : Nat, RpA K mg F (List.replicate n vs).flatten (List.replicate n ds).flatten
  | 0 => .nil
  | n + 1 => by rw [List.replicate_succ, List.replicate_succ, List.flatten_cons, List.flatten_cons]; exact r.append (RpA.rep r n)
theorem o_rep : Op2 G fRep (binaryOp .Mult) := by
  intro X Γ ok pins s σ H x y v u Q I rx ry h
  obtain ⟨F, dx, dy, d, sf, hx, hy, e, h⟩ := h
  unfold fRep at e
  split at e
  · split at e
    · rename_i hm
      cases e; cases hy
      cases hx with
      | @tup a us ds h1 r1 =>
        refine op_repT pins s σ H _ _ v u Q I rx ry ⟨a, _, us, rfl, rfl, by rw [ok.K]; exact sf.tq h1, fun z => hm.1 (by subst z; cases r1; rfl), hm.2.1, hm.2.2.1, by rw [r1.length]; exact hm.2.2.2, fun p hp => ?_⟩
        exact h _ _ _ (Grow.new sf _ hp) (.tup upd_same (RpA.mono (Grow.new sf _ hp).sF (r1.rep _)))
    · cases e
  · cases e
/-! ### str(n), int(s), s.split(t) -/
def fStr : List D → Option D
  | [.int i] => if i.natAbs.log2 < 1920 then some (.str (toString i)) else none
  | _ => none
theorem b_str : Blt G fStr (.type "str") := by
  intro X Γ ok cl pins s σ H xs us Q I r h
  obtain ⟨F, ds, d, sf, hr, e, h⟩ := h
  unfold fStr at e
  split at e
  · split at e
    · rename_i hm
      cases e
      cases hr with
      | cons r1 r2 => cases r2; cases r1; exact call_str_int pins s σ H _ us Q I r ⟨_, rfl, hm, h _ F H (.refl sf) (.str _)⟩
    · cases e
  · cases e
def fIntS : List D → Option D
  | [.str a] => if a.length ≤ 640 then (PySem.intText? a).map .int else none
  | [.int i] => some (.int i)
  | [.bl b] => some (.int (if b then 1 else 0))
  | _ => none
theorem b_intS : Blt G fIntS (.type "int") := by
  intro X Γ ok cl pins s σ H xs us Q I r h
  obtain ⟨F, ds, d, sf, hr, e, h⟩ := h
  unfold fIntS at e
  split at e
  · split at e
    · rename_i hm
      obtain ⟨n, e1, rfl⟩ := map_some e
      cases hr with
      | cons r1 r2 => cases r2; cases r1; exact call_int_str pins s σ H _ us Q I r ⟨_, n, rfl, e1, hm, h _ F H (.refl sf) (.int _)⟩
    · cases e
  · cases e
    cases hr with
    | cons r1 r2 => cases r2; cases r1; exact call_int1 pins s σ H _ us Q I r (.inl ⟨_, rfl, h _ F H (.refl sf) (.int _)⟩)
  · cases e
    cases hr with
    | cons r1 r2 => cases r2; cases r1; exact call_int1 pins s σ H _ us Q I r (.inr ⟨_, rfl, h _ F H (.refl sf) (.int _)⟩)
  · cases e
/-- methods of texts that make a list -/
def rM1O (G : Gd) (f : D → D → Option O) : V → List V → Hp → VK → Prop := fun x xs H Q => ∃ y F dx dy o, xs = [y] ∧ Same F H ∧ Rp G.K G.mg F x dx ∧ Rp G.K G.mg F y dy ∧ f dx dy = some o ∧ ∀ v C F' H', Grow F H F' H' → Ow G.tg G.K G.mg F' H' v o C → C.Nodup → (∀ a ∈ C, F' a = none ∧ H a = none) → Q v H'
def mS1O (f : D → D → Option O) (a b : Sl → R D) : Sl → R O := fun L => (a L).bind fun x => (lift (asS x)).bind fun _ => (b L).bind fun y => lift (f x y)
theorem co_s1 {id : String} {name : Str} {f : D → D → Option O} {o e : Expr} {ma mb : Sl → R D} {apos pos : Pos} (slot : Slot "str" name id) (ty : typeOf (.builtin id) = pure (.type "method_descriptor")) (rule : ∀ (X : Cx) (Γ : Gm), Γ.Ok G X → MtR X id (rM1O G f))
    (hc : (attrB o && (apos.endLine == pos.line) && nst e) = true) (ho : CE G Γ o ma) (he : CE G Γ e mb) : CO G Γ (.Call (.Attribute o name apos) [e] [] pos) (mS1O f ma mb) := by
  obtain ⟨hc, hs⟩ := and2 hc
  obtain ⟨ha, hl⟩ := and2 hc
  refine fun X ok W tk => PE.imp (pe_m1 slot ty (rule X Γ ok) (ho X ok W tk) (he X ok W tk) (star1 hs) (attr_base ha _ _ _) hl) fun σ H Q h => ?_
  obtain ⟨B, F0, L, F, A, R, h⟩ := h
  refine ⟨B, F0, L, F, A, R, (pG.bind h).imp R fun d F1 H1 s1 R1 g1 h1 v rv => ?_⟩
  cases ed : asS d with
  | none => rw [ed] at h1; exact h1.elim
  | some z =>
    rw [ed] at h1
    have h1 : pG G W σ F1 H1 ((mb L).bind fun y => lift (f d y)) (fun o F' H' => ∀ v C, Ow G.tg G.K G.mg F' H' v o C → C.Nodup → (∀ a ∈ C, F' a = none ∧ H a = none) → Q v H') := h1
    refine ⟨⟨z, rv.str_inv ed⟩, B, F0, L, F1, A, R1, (pG.bind h1).imp R1 fun d2 F2 H2 s2 R2 g2 h2 v2 rv2 => ?_⟩
    cases e2 : f d d2 with
    | none => rw [e2] at h2; exact h2.elim
    | some r =>
      rw [e2] at h2
      exact ⟨v2, F2, d, d2, r, rfl, R2.sf, rv.mono s2, rv2, e2, fun v C F' H' g ow nC fC => h2 F' H' g v C ow nC fun a m => ⟨(fC a m).1, g1.sH.free (g2.sH.free (fC a m).2)⟩⟩
def fSplit : D → D → Option O
  | .str a, .str b => if b.length ≠ 0 ∧ a.length + 2 ≤ sizeLine then some (.ml ((Txt.split a b).map fun z => .v (.str z))) else none
  | _, _ => none
theorem strs_rp {F : Hp} : ∀ zs : List Str, RpA G.K G.mg F (zs.map V.str) (zs.map D.str)
  | [] => .nil
  | _ :: r => .cons (.str _) (strs_rp r)
theorem m_split (X : Cx) (Γ : Gm) (ok : Γ.Ok G X) : MtR X "str.split" (rM1O G fSplit) := by
  intro pins s σ H x xs v us Q I rx rs h
  obtain ⟨y, F, dx, dy, o, rfl, sf, hx, hy, e, h⟩ := h
  unfold fSplit at e
  split at e
  · split at e
    · rename_i a b hm
      cases e; cases hx; cases hy
      refine mt_split pins s σ H _ _ v us Q I rx rs ⟨a, b, rfl, rfl, by simpa using hm.1, hm.2, fun p hp => ?_⟩
      refine new_ml (G := G) sf (strs_rp (Txt.split a b)) hp ?_
      rw [List.map_map]
      exact h
    · cases e
  · cases e
theorem co_split {o e : Expr} {ma mb : Sl → R D} {apos pos : Pos} (hc : (attrB o && (apos.endLine == pos.line) && nst e) = true) (ho : CE G Γ o ma) (he : CE G Γ e mb) : CO G Γ (.Call (.Attribute o "split" apos) [e] [] pos) (mS1O fSplit ma mb) :=
  co_s1 F.slot_str_split F.type_str_split m_split hc ho he
/-! ### dict(x) -/
def pairsD : List D → Option (List (Key × D))
  | [] => some []
  | .tup [k, v] :: ds => (keyD k).bind fun j => (pairsD ds).map ((j, v) :: ·)
  | _ => none
def mergeD (acc : List (Key × D)) : List (Key × D) → List (Key × D)
  | [] => acc
  | (k, v) :: r => mergeD (if (acc.any fun kv => decide (kv.1 = k)) = true then acc.map (fun kv => if kv.1 = k then (kv.1, v) else kv) else acc ++ [(k, v)]) r
def fDict : List D → Option D
  | [.lst ds] => (pairsD ds).map fun kvs => .dk (mergeD [] kvs)
  | [.tup ds] => (pairsD ds).map fun kvs => .dk (mergeD [] kvs)
  | _ => none
end
end Eng

end
section
set_option Elab.async false
set_option linter.all false
set_option maxRecDepth 100000
set_option maxHeartbeats 4000000
/-! the engine, part 15: dict(x) -/
namespace Eng
open PySem PySem.Spec PyProof.Rows L2
section
variable {G : Gd} {Γ : Gm}
def mV (m : Sl → R D) : Sl → R O := fun L => (m L).bind fun d => .ok (.v d)
theorem RpK.asOw {tg : Tg} {K : PySem.W.Frag} {mg : Str → Option Value} {F H : Hp} : ∀ {vs : List (Key × V)} {ds : List (Key × D)}, RpK K mg F vs ds → OwK tg K mg F H vs (ds.map fun p => (p.1, O.v p.2)) []
  | _, _, .nil => .nil
  | _, _, .cons r t => .cons (A := []) (B := []) (.v r) (RpK.asOw t)
theorem RpK.map {K : PySem.W.Frag} {mg : Str → Option Value} {F : Hp} {k : Key} {v : V} {d : D} (r : Rp K mg F v d) : ∀ {vs : List (Key × V)} {os : List (Key × D)}, RpK K mg F vs os →
    RpK K mg F (vs.map fun kv => if kv.1 = k then (kv.1, v) else kv) (os.map fun kv => if kv.1 = k then (kv.1, d) else kv)
  | _, _, .nil => .nil
  | _, _, .cons (x := x) q t => by
    rw [List.map_cons, List.map_cons]
    by_cases e : x = k
    · rw [if_pos e, if_pos e]; exact .cons r (RpK.map r t)
    · rw [if_neg e, if_neg e]; exact .cons q (RpK.map r t)
theorem RpK.snoc {K : PySem.W.Frag} {mg : Str → Option Value} {F : Hp} {k : Key} {v : V} {d : D} (r : Rp K mg F v d) : ∀ {vs : List (Key × V)} {os : List (Key × D)}, RpK K mg F vs os → RpK K mg F (vs ++ [(k, v)]) (os ++ [(k, d)])
  | _, _, .nil => .cons r .nil
  | _, _, .cons q t => .cons q (RpK.snoc r t)
theorem RpK.put {K : PySem.W.Frag} {mg : Str → Option Value} {F : Hp} {k : Key} {v : V} {d : D} (r : Rp K mg F v d) {vs : List (Key × V)} {os : List (Key × D)} (q : RpK K mg F vs os) :
    RpK K mg F (putK vs k v) (if (os.any fun kv => decide (kv.1 = k)) = true then os.map (fun kv => if kv.1 = k then (kv.1, d) else kv) else os ++ [(k, d)]) := by
  have ea := any_fst (k := k) q.keys
  unfold putK
  rw [ea]
  split
  · exact RpK.map r q
  · exact RpK.snoc r q
theorem RpK.merge {K : PySem.W.Frag} {mg : Str → Option Value} {F : Hp} : ∀ {more : List (Key × V)} {ms : List (Key × D)} {vs : List (Key × V)} {os : List (Key × D)}, RpK K mg F more ms → RpK K mg F vs os → RpK K mg F (mergeK vs more) (mergeD os ms)
  | _, _, _, _, .nil, q => q
  | (k, v) :: more, (_, d) :: ms, vs, os, .cons r t, q => by
    have e : mergeK vs ((k, v) :: more) = mergeK (putK vs k v) more := rfl
    rw [e, mergeD]
    exact RpK.merge t (RpK.put r q)
theorem RpA.pairs {K : PySem.W.Frag} {mg : Str → Option Value} {F : Hp} : ∀ {vs : List V} {ds : List D} {kvs : List (Key × D)}, RpA K mg F vs ds → pairsD ds = some kvs →
    ∃ (ps : List Addr) (ws : List (Key × V)), vs = ps.map V.ref ∧ Paired (fun p kv => F p = some (.tup [kV kv.1, kv.2])) ps ws ∧ RpK K mg F ws kvs
  | _, _, _, .nil, e => by cases e; exact ⟨[], [], rfl, .nil, .nil⟩
  | _, _, _, .cons (d := d) (ds := ds) r t, e => by
    unfold pairsD at e
    split at e
    · rename_i h; cases h
    · rename_i k x ds' h
      cases h
      obtain ⟨j, e1, e2⟩ := bind_some e
      obtain ⟨ms, e3, rfl⟩ := map_some e2
      obtain ⟨ps, ws, rfl, h2, h3⟩ := RpA.pairs t e3
      cases r with
      | @tup a xs ds'' h4 r4 =>
        cases r4 with
        | @cons v1 _ _ _ r5 r6 => cases r6 with
          | @cons v2 _ _ _ r7 r8 => cases r8; exact ⟨a :: ps, (j, v2) :: ws, rfl, .cons (by
              rw [h4]
              cases k with
              | int i => cases e1; cases r5; rfl
              | str i => cases e1; cases r5; rfl
              | _ => cases e1) h2, .cons r7 h3⟩
    · cases e
def fDictO : List D → Option O
  | [.lst ds] => (pairsD ds).map fun kvs => .mk ((mergeD [] kvs).map fun p => (p.1, .v p.2))
  | [.dk kvs] => some (.mk (kvs.map fun p => (p.1, .v p.2)))
  | _ => none
theorem new_mk {F H : Hp} {vs : List (Key × V)} {ds : List (Key × D)} {Q : VK} {p : Addr} (sf : Same F H) (rv : RpK G.K G.mg F vs ds) (hp : H p = none)
    (h : ∀ v C F' H', Grow F H F' H' → Ow G.tg G.K G.mg F' H' v (.mk (ds.map fun p => (p.1, .v p.2))) C → C.Nodup → (∀ a ∈ C, F' a = none ∧ H a = none) → Q v H') : Q (.ref p) (upd H p (.dK vs)) := by
  refine h (.ref p) [p] F (upd H p (.dK vs)) ⟨fun a u e => ?_, .refl _, fun a u e => ?_, fun _ e _ => e⟩ (.mk upd_same rv.asOw) (by simp) (fun a m => by rw [List.mem_singleton.mp m]; exact ⟨sf.free hp, hp⟩)
  · rw [upd_ne (ne_of_none e hp)]; exact e
  · rw [upd_ne (ne_of_none (sf _ _ e) hp)]; exact sf _ _ e
theorem Paired.imp' {α β : Type} {P Q : α → β → Prop} (f : ∀ a b, P a b → Q a b) : ∀ {xs : List α} {ys : List β}, Paired P xs ys → Paired Q xs ys
  | _, _, .nil => .nil
  | _, _, .cons h t => .cons (f _ _ h) (Paired.imp' f t)
theorem b_dict : BltO G fDictO (.type "dict") := by
  intro X Γ ok cl pins s σ H xs us Q I r h
  obtain ⟨F, ds, d, sf, hr, e, h⟩ := h
  unfold fDictO at e
  split at e
  · obtain ⟨kvs, e1, rfl⟩ := map_some e
    cases hr with
    | cons r1 r2 => cases r2; cases r1 with
      | lst h1 r1 =>
        obtain ⟨ps, ws, rfl, h2, h3⟩ := r1.pairs e1
        exact call_dictP cl pins s σ H _ us Q I r ⟨_, ps, ws, rfl, by rw [ok.K]; exact Same.seq sf h1, Paired.imp' (fun p kv e => by rw [ok.K]; exact sf.tq e) h2, fun p hp => new_mk sf (RpK.merge h3 .nil) hp h⟩
  · cases e
    cases hr with
    | cons r1 r2 => cases r2; cases r1 with
      | dk h1 r1 => exact call_dictD pins s σ H _ us Q I r ⟨_, _, rfl, Same.rd sf h1, fun p hp => new_mk sf r1 hp h⟩
  · cases e
end
end Eng

end
section
set_option Elab.async false
set_option linter.all false
set_option maxRecDepth 100000
set_option maxHeartbeats 4000000
/-! the engine, part 16: what the head tells of a class -/
namespace Eng
open PySem PySem.Spec PyProof.Rows L2
structure MkF (K : PySem.W.Frag) (c qual : Str) (st : Stmt) (fl : List Str) : Prop where
  ex : ∃ (C f : Addr) (oc : Value) (od an : Option Addr) (osl : Array (Option Value)) (kV doc pm cdv ct : Value), PySem.W.nsIn K mainGlobals c = some (some (.ref C)) ∧
    PySem.W.findIn K (.ref C) "__init__" = some (some (.ref f)) ∧ K.lookup f = some ⟨oc, od, .func (PySem.W.fnOf "__init__" qual (defArgs st) (defBody st) (defScope st) .none kV doc pm an cdv ct), osl⟩ ∧ PySem.W.isFn K (.ref f) = true ∧ PySem.W.keepIn K (.ref f) = true ∧ PySem.W.codeIn K cdv qual = true ∧
    PySem.W.makesIn K C = true ∧ PySem.W.keepIn K (.ref C) = true ∧ PySem.W.plainGet K C Str.empty = true ∧ PySem.W.hasDictIn K C = true ∧ PySem.W.plainOver K C = true ∧ PySem.W.findIn K (.ref C) "__setattr__" = some (some (.builtin "object.__setattr__")) ∧ ∀ g ∈ fl, NoAttr K C g
theorem MkF.cls {G : Gd} {h : Heap} {c qual : Str} {st : Stmt} {fl : List Str} (M : MkF G.K c qual st fl) (X : G.K.In h) (N : h.Ns mainGlobals G.mg) {gl : List Str} (hg : (gl.all fun g => fl.any fun f => decide (f = g)) = true) :
    ∃ C, G.mg c = some (.ref C) ∧ Cls G.K C ∧ ∀ f ∈ gl, NoAttr G.K C f := by
  obtain ⟨C, f, oc, od, an, osl, kV, doc, pm, cdv, ct, h1, h3, h2, h4, h5, h6, h7, h8, h9, h10, h11, h12, h13⟩ := M.ex
  refine ⟨C, PySem.W.mg_of X N h1, ⟨h9, h10, h11, h12⟩, fun g m => ?_⟩
  obtain ⟨x, mx, e⟩ := List.any_eq_true.mp (List.all_eq_true.mp hg g m)
  cases of_decide_eq_true e
  exact h13 _ mx
theorem MkF.mkx {G : Gd} {h : Heap} {Γ : Gm} {c qual : Str} {st : Stmt} {fl ps : List Str} {m : Sl → RS} {k ar : Nat} (M : MkF G.K c qual st fl) (X : G.K.In h) (N : h.Ns mainGlobals G.mg) (S : FnScope Γ.N ps (defScope st)) (hsc : Γ.sc = defScope st) (hn : 1 ≤ Γ.N.length) (hps : ps.length = ar + 1)
    (hb : ∀ (kV doc pm : Value) (an : Option Addr) (cdv ct : Value) (us : List Value), us.length = ps.length → bindArgs (PySem.W.fnOf "__init__" qual (defArgs st) (defBody st) (defScope st) .none kV doc pm an cdv ct) ⟨us, []⟩ = pure (ps.zip us)) (hk : Γ.k = k)
    (cs : CSs G Γ (defBody st) m) : MkX G ⟨c, k + 1, ar, runI Γ.N.length c m ar⟩ := by
  obtain ⟨C, f, oc, od, an, osl, kV, doc, pm, cdv, ct, h1, h3, h2, h4, h5, h6, h7, h8, h9, h10, h11, h12, h13⟩ := M.ex
  have F := fun_mk h2 h6 h5
  exact ⟨C, f, _, ps, PySem.W.mg_of X N h1, ⟨h7, h3, h4, h8⟩, F.binds hb, initok_of F S hsc hn hps (PySem.W.mg_of X N h1) hk cs⟩
structure ExF (K : PySem.W.Frag) (c : Str) : Prop where
  ex : ∃ C : Addr, PySem.W.nsIn K mainGlobals c = some (some (.ref C)) ∧ PySem.W.excIn K C [.type "ValueError", .type "Exception", .type "BaseException", .type "object"] "ValueError.__new__" = true ∧ PySem.W.keepIn K (.ref C) = true ∧
    PySem.W.subIn K (.ref C) (.type "BaseException") = some true ∧ PySem.W.typeIn K (.ref C) = some (.type "type")
theorem ExF.exc {G : Gd} {h : Heap} {c : Str} (M : ExF G.K c) (X : G.K.In h) (N : h.Ns mainGlobals G.mg) : ExcF G c := by
  obtain ⟨C, h1, h2, h3, h4, h5⟩ := M.ex
  exact ⟨C, PySem.W.mg_of X N h1, h2, h3, h4, h5⟩
end Eng

end
section
set_option Elab.async false
set_option linter.all false
set_option maxRecDepth 100000
set_option maxHeartbeats 4000000
/-! the engine, part 17: x[i] = e in a list -/
namespace Eng
open PySem PySem.Spec PyProof.Rows L2
section
variable {G : Gd} {Γ : Gm} {W : WX} {B : Bd} {F0 F H : Hp} {L : Sl} {A : List Addr} {σ : L2.St}
theorem OwA.set {tg : Tg} {K : PySem.W.Frag} {mg : Str → Option Value} {F H : Hp} {v : V} {d : D} (r : Rp K mg F v d) : ∀ {vs : List V} {os : List O} {A : List Addr} (j : Nat), OwA tg K mg F H vs os A → ∃ A', OwA tg K mg F H (vs.set j v) (os.set j (.v d)) A' ∧ A'.Sublist A
  | _, _, _, _, .nil => ⟨[], .nil, List.Sublist.refl _⟩
  | _, _, _, 0, .cons (A := A1) (B := A2) q t => ⟨[] ++ A2, .cons (.v r) t, List.sublist_append_right _ _⟩
  | _, _, _, j + 1, .cons (A := A1) (B := A2) q t => by
    obtain ⟨A', h1, h2⟩ := OwA.set r j t
    exact ⟨A1 ++ A', .cons q h1, (List.Sublist.refl _).append h2⟩
def sSub (i : Nat) (mk mv : Sl → R D) : Sl → RS := sBind mv fun d L => match L[i]? with
  | some (some (.ml os)) => sBind mk (fun k L => match k with
    | .int n => (match ixN os.length n with | some j => .next (L.set i (some (.ml (os.set j (.v d))))) | none => .stuck)
    | _ => .stuck) L
  | _ => .stuck
theorem sw_sub {o k : Expr} {p : Pos} {e : Expr} (h : setOk e = true) (h2 : noComp e = true) (l : Nat) (env : Env) : swapsWithSole [.Subscript o k p] e l env = pure false := by
  cases e <;> first | rfl | (cases h; done) | (cases h2; done)
theorem st_sub {o k : Expr} {p : Pos} {e : Expr} (env : Env) : swappedStores [.Subscript o k p] e env = pure none := by
  cases e <;> rfl
theorem as_sub {o k : Expr} {p : Pos} (h : plainIx k = true) (env : Env) (v : Value) : assign (.Subscript o k p) env v = (do
      let ov ← holding [v] (eval o env)
      let iv ← holding [v, ov] (eval k env)
      standAt p
      holding [v, ov, iv] (setItem ov iv v)
      release [v, ov, iv] []) := by
  cases k <;> first | rfl | (cases h; done)
theorem cs_sub {i : Nat} {x : Str} {k v : Expr} {mk mv : Sl → R D} {p pos' pos : Pos} (hb : varB Γ i x = true) (hn : (noComp v && setOk v && plainIx k) = true) (hk : CE G Γ k mk) (hv : CE G Γ v mv) : CS G Γ (.Assign [.Subscript (.Name x p) k pos'] v pos) (sSub i mk mv) := by
  unfold varB at hb
  obtain ⟨h1, h4⟩ := and2 hb
  obtain ⟨h1, h3⟩ := and2 h1
  obtain ⟨h1, h2⟩ := and2 h1
  obtain ⟨n1, n3⟩ := and2 hn
  obtain ⟨n1, n2⟩ := and2 n1
  refine fun X ok W tk => PS.imp (ps_asg (hv X ok W tk) (pg_sub (pe_var (i := i) (by rw [ok.N]; exact of_decide_eq_true h1) (by rw [ok.sc]; exact vis_of h2) (by simpa using h3) (by simpa using h4)) (hk X ok W tk) set_list (as_sub n3 _)) (sw_sub n2 n1 _ _) (st_sub _) rfl) fun D σ H h => ?_
  obtain ⟨B, F0, L, F, A, R, h⟩ := h
  refine ⟨B, F0, L, F, A, R, (pS.first R h).imp R fun dv F1 H1 s1 R1 g1 h1 z rz => ?_⟩
  cases e : L[i]? with
  | none => rw [e] at h1; exact h1.elim
  | some u =>
    cases u with
    | none => rw [e] at h1; exact h1.elim
    | some o =>
      cases o with
      | ml os =>
        rw [e] at h1
        obtain ⟨x, A1, Ai, A2, q1, q2, _⟩ := R1.os.get e
        refine ⟨x, q1, B, F0, L, F1, A, R1, (pS.first R1 h1).imp R1 fun dk F2 H2 s2 R2 g2 h2 y ry => ?_⟩
        cases dk with
        | int n =>
          cases ej : ixN os.length n with
          | none => dsimp only at h2; rw [ej] at h2; exact h2.elim
          | some j =>
            dsimp only at h2
            rw [ej] at h2
            obtain ⟨v1, Ai, k1, k2, k3, k4, k5⟩ := R2.mut e
            rw [q1] at k1; cases k1
            cases ry
            cases k2 with
            | @ml a us _ A1 hH ra =>
              obtain ⟨m1, m2⟩ := List.nodup_cons.mp k4
              have u1 := OwA.mono (H' := upd H2 a (.lst (us.set j z))) (.refl _) (fun x m => upd_ne (fun w => m1 (w ▸ m))) ra
              obtain ⟨A', w1, w2⟩ := OwA.set (rz.mono s2) j u1
              obtain ⟨A3, R3⟩ := k5 (upd H2 a (.lst (us.set j z))) (.ml (os.set j (.v dv))) (a :: A') rfl (fun x hx _ => upd_ne (fun w => hx (by rw [w]; exact List.mem_cons_self))) (.ml upd_same w1)
                (List.nodup_cons.mpr ⟨fun m => m1 (w2.subset m), w2.nodup m2⟩) (fun x m => .inl (by
                  rcases List.mem_cons.mp m with rfl | m
                  · exact List.mem_cons_self
                  · exact List.mem_cons_of_mem _ (w2.subset m)))
              exact ⟨a, us, n, j, rfl, rfl, hH, by rw [ra.length]; exact ej, h2 _ _ ⟨F2, A3, .refl _, R3⟩⟩
        | _ => exact h2.elim
      | _ => rw [e] at h1; exact h1.elim
end
end Eng

end
section
set_option Elab.async false
set_option linter.all false
set_option maxRecDepth 100000
set_option maxHeartbeats 4000000
/-! the engine, part 18: a tuple of owned things told; x[c].append(e) -/
namespace Eng
open PySem PySem.Spec PyProof.Rows L2
section
variable {G : Gd} {Γ : Gm} {W : WX} {B : Bd} {F0 F H : Hp} {L : Sl} {A : List Addr} {σ : L2.St}
inductive RpI (K : PySem.W.Frag) (mg : Str → Option Value) (σ : L2.St) (F : Hp) : List V → List (Nat ⊕ D) → Prop
  | nil : RpI K mg σ F [] []
  | mv {i : Nat} {v : V} {vs : List V} {xs : List (Nat ⊕ D)} : σ[i]? = some (some v) → RpI K mg σ F vs xs → RpI K mg σ F (v :: vs) (.inl i :: xs)
  | ex {v : V} {d : D} {vs : List V} {xs : List (Nat ⊕ D)} : Rp K mg F v d → RpI K mg σ F vs xs → RpI K mg σ F (v :: vs) (.inr d :: xs)
def tAI (G : Gd) (W : WX) (m : Sl → R (List (Nat ⊕ D))) : TA := fun σ H Q => ∃ B F0 L F A, Rl G B F0 L F A σ H ∧ pG G W σ F H (m L) fun xs F' H' => ∀ v, RpI G.K G.mg σ F' v xs → Q v H'
def CAI (G : Gd) (Γ : Gm) (es : List Expr) (m : Sl → R (List (Nat ⊕ D))) : Prop := ∀ X, Γ.Ok G X → ∀ W, Takes X W → PA X es (tAI G W m)
def iNil : Sl → R (List (Nat ⊕ D)) := fun _ => .ok []
def iMv (i : Nat) (r : Sl → R (List (Nat ⊕ D))) : Sl → R (List (Nat ⊕ D)) := fun L => match L[i]? with | some (some _) => (r L).bind fun xs => .ok (.inl i :: xs) | _ => .stuck
def iEx (m : Sl → R D) (r : Sl → R (List (Nat ⊕ D))) : Sl → R (List (Nat ⊕ D)) := fun L => (m L).bind fun d => (r L).bind fun xs => .ok (.inr d :: xs)
theorem cai_nil : CAI G Γ [] iNil := fun X ok W tk => PA.imp pa_nil fun σ H Q h => by
  obtain ⟨B, F0, L, F, A, R, h⟩ := h
  exact h F H (Grow.refl R.sf) [] .nil
theorem cai_mv {i : Nat} {x : Str} {p : Pos} {es : List Expr} {r : Sl → R (List (Nat ⊕ D))} (hb : varB Γ i x = true) (hr : CAI G Γ es r) : CAI G Γ (.Name x p :: es) (iMv i r) := by
  unfold varB at hb
  obtain ⟨h1, h4⟩ := and2 hb
  obtain ⟨h1, h3⟩ := and2 h1
  obtain ⟨h1, h2⟩ := and2 h1
  refine fun X ok W tk => PA.imp (pa_cons (pe_var (i := i) (by rw [ok.N]; exact of_decide_eq_true h1) (by rw [ok.sc]; exact vis_of h2) (by simpa using h3) (by simpa using h4)) (hr X ok W tk) rfl) fun σ H Q h => ?_
  obtain ⟨B, F0, L, F, A, R, h⟩ := h
  unfold iMv at h
  split at h
  · rename_i o e
    obtain ⟨v, A1, Ai, A2, q1, _⟩ := R.os.get e
    refine ⟨v, q1, B, F0, L, F, A, R, (pG.bind h).imp R fun xs F2 H2 s2 R2 g2 h2 vs rvs => ?_⟩
    exact h2 F2 H2 (Grow.refl R2.sf) _ (.mv q1 rvs)
  · exact h.elim
theorem RpI.mono {K : PySem.W.Frag} {mg : Str → Option Value} {σ : L2.St} {F F' : Hp} (s : Same F F') : ∀ {vs : List V} {xs : List (Nat ⊕ D)}, RpI K mg σ F vs xs → RpI K mg σ F' vs xs
  | _, _, .nil => .nil
  | _, _, .mv e t => .mv e (RpI.mono s t)
  | _, _, .ex r t => .ex (r.mono s) (RpI.mono s t)
theorem cai_ex {e : Expr} {es : List Expr} {m : Sl → R D} {r : Sl → R (List (Nat ⊕ D))} (hs : nst e = true) (he : CE G Γ e m) (hr : CAI G Γ es r) : CAI G Γ (e :: es) (iEx m r) := by
  refine fun X ok W tk => PA.imp (pa_cons (he X ok W tk) (hr X ok W tk) (star_cons hs)) fun σ H Q h => ?_
  obtain ⟨B, F0, L, F, A, R, h⟩ := h
  refine ⟨B, F0, L, F, A, R, (pG.bind h).imp R fun d F1 H1 s1 R1 g1 h1 v rv => ?_⟩
  refine ⟨B, F0, L, F1, A, R1, (pG.bind h1).imp R1 fun ds F2 H2 s2 R2 g2 h2 vs rvs => ?_⟩
  exact h2 F2 H2 (Grow.refl R2.sf) _ (.ex (rv.mono s2) rvs)
theorem RpI.length {K : PySem.W.Frag} {mg : Str → Option Value} {σ : L2.St} {F : Hp} : ∀ {vs : List V} {xs : List (Nat ⊕ D)}, RpI K mg σ F vs xs → vs.length = xs.length
  | _, _, .nil => rfl
  | _, _, .mv _ t => congrArg (· + 1) (RpI.length t)
  | _, _, .ex _ t => congrArg (· + 1) (RpI.length t)
def moves : List (Nat ⊕ D) → Sl → Option (List O × Sl)
  | [], L => some ([], L)
  | .inl i :: xs, L => match L[i]? with | some (some o) => if okSet L i = true then (moves xs (L.set i none)).map fun p => (o :: p.1, p.2) else none | _ => none
  | .inr d :: xs, L => (moves xs L).map fun p => (.v d :: p.1, p.2)
/-- a slot's thing taken out -/
theorem Rl.take (R : Rl G B F0 L F A σ H) {i : Nat} {o : O} (e : L[i]? = some (some o)) (hok : okSet L i = true) : ∃ v Ai A', σ[i]? = some (some v) ∧ Ow G.tg G.K G.mg F H v o Ai ∧ Ai.Nodup ∧ Rl G B F0 (L.set i none) F A' σ H ∧ (∀ a ∈ Ai, a ∈ A ∧ a ∉ A') ∧ ∀ a ∈ A', a ∈ A := by
  obtain ⟨v, A1, Ai, A2, h1, h2, h3, q0⟩ := R.os.take e
  have nd := R.nd
  rw [h3] at nd
  have n1 := List.nodup_append.mp nd
  have n2 := List.nodup_append.mp n1.1
  have sub : ∀ a ∈ A1 ++ A2, a ∈ A := fun a m => by rw [h3]; simp at m ⊢; rcases m with m | m <;> simp [m]
  refine ⟨v, Ai, A1 ++ A2, h1, h2, n2.2.1, ⟨q0, ?_, R.sf, R.f0, R.sb, R.fb, fun a m => R.fa a (sub a m), ?_⟩, fun a m => ⟨by rw [h3]; simp [m], fun m' => ?_⟩, sub⟩
  · exact List.nodup_append.mpr ⟨n2.1, n1.2.1, fun a ha b hb => n1.2.2 a (List.mem_append_left _ ha) b hb⟩
  · have := pn_set (x := none) (y := some v) (okSet_of hok).2 R.pn
    have e2 : σ.set i (some v) = σ := by
      obtain ⟨hi, e⟩ := List.getElem?_eq_some_iff.mp h1
      rw [← e]; exact List.set_getElem_self hi
    rw [e2] at this; exact this
  · rcases List.mem_append.mp m' with m' | m'
    · exact n2.2.2 a m' a m rfl
    · exact n1.2.2 a (List.mem_append_right _ m) a m' rfl
theorem moves_ok : ∀ {xs : List (Nat ⊕ D)} {vs : List V} {L L' : Sl} {A : List Addr} {os : List O}, Rl G B F0 L F A σ H → RpI G.K G.mg σ F vs xs → moves xs L = some (os, L') →
    ∃ A' C, Rl G B F0 L' F A' σ H ∧ OwA G.tg G.K G.mg F H vs os C ∧ C.Nodup ∧ (∀ a ∈ C, a ∈ A ∧ a ∉ A') ∧ ∀ a ∈ A', a ∈ A
  | [], _, L, L', A, os, R, .nil, e => by
    cases e
    exact ⟨A, [], R, .nil, List.nodup_nil, (fun _ m => nomatch m), fun _ m => m⟩
  | .inl i :: xs, _, L, L', A, os, R, .mv hv t, e => by
    unfold moves at e
    split at e
    · rename_i o eo
      split at e
      · rename_i hok
        obtain ⟨⟨os', L1⟩, e1, e2⟩ := map_some e
        cases e2
        obtain ⟨v, Ai, A1, h1, h2, h3, R1, h4, h5⟩ := R.take eo hok
        rw [hv] at h1; cases h1
        obtain ⟨A', C, R2, q1, q2, q3, q4⟩ := moves_ok R1 t e1
        exact ⟨A', Ai ++ C, R2, .cons h2 q1, List.nodup_append.mpr ⟨h3, q2, fun a ha b hb z => (h4 a ha).2 (z ▸ (q3 b hb).1)⟩, fun a m => (List.mem_append.mp m).elim (fun m => ⟨(h4 a m).1, fun m' => (h4 a m).2 (q4 a m')⟩) (fun m => ⟨h5 a (q3 a m).1, (q3 a m).2⟩), fun a m => h5 a (q4 a m)⟩
      · cases e
    · cases e
  | .inr d :: xs, _, L, L', A, os, R, .ex hv t, e => by
    unfold moves at e
    obtain ⟨⟨os', L1⟩, e1, e2⟩ := map_some e
    cases e2
    obtain ⟨A', C, R2, q1, q2, q3, q4⟩ := moves_ok R t e1
    exact ⟨A', C, R2, .cons (A := []) (.v hv) q1, q2, q3, q4⟩
def sRetT (m : Sl → R (List (Nat ⊕ D))) : Sl → RS := sBind m fun xs L => if xs.length ≤ sizeLine then (match moves xs L with | some (os, L') => .ret (.mt os) L' | none => .stuck) else .stuck
theorem cs_retT {es : List Expr} {m : Sl → R (List (Nat ⊕ D))} {k pos p} (h : CAI G Γ es m) : CS G Γ (.Return (some (.Tuple es k p)) pos) (sRetT m) := by
  refine fun X ok W tk => PS.imp (ps_ret (pe_tup (h X ok W tk))) fun D σ H h => ?_
  obtain ⟨B, F0, L, F, A, R, h⟩ := h
  refine ⟨B, F0, L, F, A, R, (pS.first R h).imp R fun xs F1 H1 s1 R1 g1 h1 vs rv => ?_⟩
  split at h1
  · rename_i hl
    refine ⟨by rw [rv.length]; exact hl, fun p hp => ?_⟩
    cases e : moves xs L with
    | none => rw [e] at h1; exact h1.elim
    | some q =>
      obtain ⟨os, L'⟩ := q
      rw [e] at h1
      obtain ⟨A', C, R2, q1, q2, q3, q4⟩ := moves_ok R1 rv e
      obtain ⟨s3, R3⟩ := R2.frz (.tup vs) hp
      have hC : ∀ a ∈ C, upd H1 p (.tup vs) a = H1 a := fun a m => upd_ne (fun z => by
        obtain ⟨u, e⟩ := R1.os.tracked a (q3 a m).1
        rw [z, hp] at e; cases e)
      have hp2 : ∀ a ∈ C, a ≠ p := fun a m z => by
        obtain ⟨u, e⟩ := R1.os.tracked a (q3 a m).1
        rw [z, hp] at e; cases e
      exact h1 _ _ ⟨_, A', C, σ, s3, R3, .mt upd_same (OwA.mono s3 hC q1), q2, fun a m => ⟨by rw [upd_ne (hp2 a m)]; exact (R1.fa a (q3 a m).1).1, (R1.fa a (q3 a m).1).2, (q3 a m).2⟩⟩
  · exact h1.elim
/-! ### x[c].append(e) -/
theorem OwA.nth {tg : Tg} {K : PySem.W.Frag} {mg : Str → Option Value} {F H : Hp} : ∀ {vs : List V} {os : List O} {A : List Addr} {c : Nat} {o : O}, OwA tg K mg F H vs os A → os[c]? = some o →
    ∃ v A1 Ac A2, vs[c]? = some v ∧ Ow tg K mg F H v o Ac ∧ A = A1 ++ Ac ++ A2 ∧
      ∀ (F' H' : Hp) (o' : O) (Ac' : List Addr), Same F F' → (∀ a, a ∈ A1 ∨ a ∈ A2 → H' a = H a) → Ow tg K mg F' H' v o' Ac' → OwA tg K mg F' H' vs (os.set c o') (A1 ++ Ac' ++ A2)
  | _, _, _, c, o, .nil, e => by simp at e
  | _, _, _, 0, o, .cons (A := A0) (B := B0) r t, e => by
    simp at e; subst e
    exact ⟨_, [], A0, B0, rfl, r, by simp, fun F' H' o' Ac' s k r' => .cons r' (OwA.mono s (fun a m => k a (.inr m)) t)⟩
  | _, _, _, c + 1, o, .cons (A := A0) r t, e => by
    obtain ⟨v, A1, Ac, A2, h1, h2, h3, h4⟩ := OwA.nth (c := c) t (by simpa using e)
    refine ⟨v, A0 ++ A1, Ac, A2, by simpa using h1, h2, by rw [h3]; simp, fun F' H' o' Ac' s k r' => ?_⟩
    have := h4 F' H' o' Ac' s (fun a m => k a (m.imp (List.mem_append_right _) id)) r'
    rw [List.append_assoc, List.append_assoc, ← List.append_assoc A1]
    exact .cons (Ow.mono s (fun a m => k a (.inl (List.mem_append_left _ m))) r) this
def sAppIx (i c : Nat) (m : Sl → R O) : Sl → RS := fun L => match L[i]? with
  | some (some (.mt os)) => (match os[c]? with
    | some (.ml _) => sBind m (fun o L => match L[i]? with
      | some (some (.mt os)) => (match os[c]? with | some (.ml ps) => if ps.length < sizeLine then .next (L.set i (some (.mt (os.set c (.ml (ps ++ [o])))))) else .stuck | _ => .stuck)
      | _ => .stuck) L
    | _ => .stuck)
  | _ => .stuck
theorem atI_nat {α : Type} {xs : List α} {c : Nat} {v : α} (h : xs[c]? = some v) : atI xs (c : Int) = some v := by
  have : c < xs.length := (List.getElem?_eq_some_iff.mp h).1
  unfold atI ixN
  rw [if_pos (by omega), if_pos (by omega)]
  simpa using h
theorem cs_appIx {i c : Nat} {x : Str} {e : Expr} {m : Sl → R O} {j : Nat} {p pc ps apos cpos pos : Pos} (hb : mthB Γ i x e apos cpos = true) (he : CO G Γ e m) :
    CS G Γ (.Expr (.Call (.Attribute (.Subscript (.Name x p) (.Constant (.int (c : Int)) j pc) ps) "append" apos) [e] [] cpos) pos) (sAppIx i c m) := by
  unfold mthB at hb
  obtain ⟨hb, hl⟩ := and2 hb
  obtain ⟨hb, hn⟩ := and2 hb
  unfold varB at hb
  obtain ⟨h1, h4⟩ := and2 hb
  obtain ⟨h1, h3⟩ := and2 h1
  obtain ⟨h1, h2⟩ := and2 h1
  refine fun X ok W tk => PS.imp (ps_expr (pe_bm PySem.F.plainAttrs_list PySem.F.slot_list_append PySem.F.type_list_append mt_append
    (pe_ix ix_tup (pe_var (i := i) (by rw [ok.N]; exact of_decide_eq_true h1) (by rw [ok.sc]; exact vis_of h2) (by simpa using h3) (by simpa using h4)) pe_int (fun _ _ => rfl)) (pa_cons (he X ok W tk) pa_nil (star_cons hn)) (attr_base rfl _ _ _) (few1 hn) hl (star_cons hn) (star_any (es := []) rfl)) (sw_none rfl _ _ _)) fun D σ H h => ?_
  obtain ⟨B, F0, L, F, A, R, h⟩ := h
  unfold sAppIx at h
  split at h
  · rename_i os0 e0
    split at h
    · rename_i ps0 e1
      obtain ⟨v0, Ai0, g1, g2, _⟩ := R.mut e0
      cases g2 with
      | @mt a vs _ A' hF ra =>
        obtain ⟨w0, _, Ac0, _, k1, k2, _⟩ := ra.nth e1
        cases k2 with
        | @ml l us _ A'' hH ru =>
          refine ⟨_, g1, a, vs, (c : Int), _, rfl, rfl, by rw [ok.K]; exact R.sf.tq hF, atI_nat k1, .inl ⟨rfl, _, .inl (.inl hH)⟩, B, F0, L, F, A, R, (pS.first R h).imp R fun o F1 H1 s1 R1 gr1 hc v C ow nC fC => ?_⟩
          rw [e0] at hc
          dsimp only at hc
          rw [e1] at hc
          dsimp only at hc
          split at hc
          · rename_i hz
            obtain ⟨v1, Ai, t1, t2, t3, t4, t5⟩ := R1.mut e0
            rw [g1] at t1; cases t1
            cases t2 with
            | @mt _ vs1 _ _ hF1 ra1 =>
              obtain ⟨w1, B1, Ac, B2, u1, u2, u3, u4⟩ := ra1.nth e1
              have ev : vs1 = vs := by rw [s1 _ _ hF] at hF1; cases hF1; rfl
              rw [ev, k1] at u1; cases u1
              cases u2 with
              | @ml _ us1 _ A2 hH1 ru1 =>
                refine ⟨l, us1, v, rfl, rfl, hH1, by rw [ru1.length]; exact hz, ?_⟩
                have fresh : ∀ c ∈ C, c ∉ A := fun c hc m => by
                  obtain ⟨u, e⟩ := R.os.tracked c m
                  rw [(fC c hc).2] at e; cases e
                have hl' : l ∈ Ai := by rw [u3]; simp
                have nd := t4
                rw [u3] at nd
                have n1 := List.nodup_append.mp nd
                have n2 := List.nodup_append.mp n1.1
                obtain ⟨n3, n4⟩ := List.nodup_cons.mp n2.2.1
                have out : ∀ x, x ∈ B1 ∨ x ∈ B2 → x ≠ l := fun x m z => m.elim (fun m => n2.2.2 x m l List.mem_cons_self z) (fun m => n1.2.2 l (List.mem_append_right _ List.mem_cons_self) x m z.symm)
                have q1 := u4 F1 (upd H1 l (.lst (us1 ++ [v]))) (.ml (ps0 ++ [o])) (l :: (A2 ++ (C ++ []))) (.refl _) (fun x m => upd_ne (out x m))
                  (.ml upd_same (OwA.append (OwA.mono (.refl _) (fun x m => upd_ne (fun z => n3 (z ▸ m))) ru1) (.cons (Ow.mono (.refl _) (fun x m => upd_ne (fun z => fresh x m (z ▸ t3 l hl'))) ow) .nil)))
                obtain ⟨A3, R3⟩ := t5 (upd H1 l (.lst (us1 ++ [v]))) (.mt (os0.set c (.ml (ps0 ++ [o])))) _ rfl (fun x hx _ => upd_ne (fun z => hx (by rw [z]; exact hl'))) (.mt hF1 q1)
                  (by
                    rw [List.append_nil]
                    have m1 : (l :: (A2 ++ C)).Nodup := List.nodup_cons.mpr ⟨fun m => (List.mem_append.mp m).elim n3 (fun m => fresh l m (t3 l hl')), List.nodup_append.mpr ⟨n4, nC, fun x hx y hy z => fresh y hy (z ▸ t3 x (by rw [u3]; simp [hx]))⟩⟩
                    have sub : ∀ y, y ∈ l :: (A2 ++ C) → y ∈ l :: A2 ∨ y ∈ C := fun y m => by simp at m ⊢; rcases m with m | m | m <;> simp [m]
                    refine List.nodup_append.mpr ⟨List.nodup_append.mpr ⟨n2.1, m1, fun x hx y hy z => (sub y hy).elim (fun m => n2.2.2 x hx y m z) (fun m => fresh y m (z ▸ t3 x (by rw [u3]; simp [hx])))⟩, n1.2.1, fun x hx y hy z => ?_⟩
                    rcases List.mem_append.mp hx with hx | hx
                    · exact n1.2.2 x (List.mem_append_left _ hx) y hy z
                    · exact (sub x hx).elim (fun m => n1.2.2 x (List.mem_append_right _ m) y hy z) (fun m => fresh x m (z ▸ t3 y (by rw [u3]; simp [hy]))))
                  (fun x m => by
                    rw [List.append_nil] at m
                    by_cases hx : x ∈ C
                    · exact .inr ⟨(fC x hx).1, R.sb.free (fC x hx).2, fresh x hx⟩
                    · refine .inl ?_
                      rw [u3]
                      simp at m ⊢
                      rcases m with m | m | m | m | m
                      · simp [m]
                      · simp [m]
                      · simp [m]
                      · exact absurd m hx
                      · simp [m])
                exact hc _ _ ⟨F1, A3, .refl _, R3⟩
          · exact hc.elim
    · exact h.elim
  · exact h.elim
end
end Eng

end
section
set_option Elab.async false
set_option linter.all false
set_option maxRecDepth 100000
set_option maxHeartbeats 4000000
/-! the engine, part 19: [..] * n, x += a new list -/
namespace Eng
open PySem PySem.Spec PyProof.Rows L2
section
variable {G : Gd} {Γ : Gm} {W : WX} {B : Bd} {F0 F H : Hp} {L : Sl} {A : List Addr} {σ : L2.St}
theorem OwA.plain {tg : Tg} {K : PySem.W.Frag} {mg : Str → Option Value} {F H : Hp} : ∀ {vs : List V} {ds : List D} {A : List Addr}, OwA tg K mg F H vs (ds.map .v) A → RpA K mg F vs ds
  | _, [], _, .nil => .nil
  | _, d :: ds, _, .cons r t => by
    cases r with
    | v r => exact .cons r (OwA.plain t)
def mRepL (m : Sl → R (List D)) (mb : Sl → R D) : Sl → R O := fun L => (m L).bind fun ds => if ds.length ≤ 1000 then (mb L).bind fun y => (match y with
  | .int k => if 0 ≤ k ∧ k ≤ 1000 then .ok (.ml ((List.replicate k.toNat ds).flatten.map .v)) else .stuck
  | _ => .stuck) else .stuck
theorem co_repL {es : List Expr} {b : Expr} {m : Sl → R (List D)} {mb : Sl → R D} {pos pos2} (ha : CA G Γ es m) (hb : CE G Γ b mb) : CO G Γ (.BinOp (.List es pos) .Mult b pos2) (mRepL m mb) := by
  refine fun X ok W tk => PE.imp (pe_op op_rep (co_lst ha X ok W tk) (hb X ok W tk)) fun σ H Q h => ?_
  obtain ⟨B, F0, L, F, A, R, h⟩ := h
  refine ⟨B, F0, L, F, A, R, ?_⟩
  unfold mRepL at h
  unfold mLst
  cases hm : m L with
  | stuck => rw [hm] at h; exact h.elim
  | exc c => rw [hm] at h; exact h
  | ok ds =>
    rw [hm] at h
    have h' : pG G W σ F H (if ds.length ≤ 1000 then (mb L).bind fun y => (match y with
      | .int k => if 0 ≤ k ∧ k ≤ 1000 then .ok (.ml ((List.replicate k.toNat ds).flatten.map .v)) else .stuck
      | _ => .stuck) else .stuck : Eng.R O) (fun o F' H' => ∀ v C, Ow G.tg G.K G.mg F' H' v o C → C.Nodup → (∀ a ∈ C, F' a = none ∧ H a = none) → Q v H') := h
    split at h'
    · rename_i hl
      have e : ((Eng.R.ok ds : Eng.R (List D)).bind fun ds => if ds.length ≤ sizeLine then (.ok (.ml (ds.map .v)) : Eng.R O) else .stuck) = .ok (.ml (ds.map .v)) := if_pos (Nat.le_trans hl (by decide))
      rw [e]
      intro F1 H1 g1 v C ow nC fC
      have R1 := R.gr g1
      cases ow with
      | @ml l vs _ A1 hH ra =>
        have rp := OwA.plain ra
        refine ⟨B, F0, L, F1, A, R1, (pG.bind (pG.mono g1 h')).imp R1 fun y F2 H2 s2 R2 g2 h2 w rw1 => ?_⟩
        split at h2
        · rename_i kk
          split at h2
          · rename_i hc
            cases rw1
            refine ⟨l, kk, vs, rfl, rfl, g2.sH _ _ hH, by omega, by omega, ?_, fun p hp => new_ml R2.sf ((rp.mono s2).rep _) hp fun v C F' H' g ow nC fC => h2 F' H' g v C ow nC fun a m => ⟨(fC a m).1, (g1.sH.trans g2.sH).free (fC a m).2⟩⟩
            show vs.length * kk.toNat ≤ 16777216
            have : kk.toNat ≤ 1000 := by omega
            exact Nat.le_trans (Nat.mul_le_mul (by rw [rp.length]; exact hl) this) (by decide)
          · exact h2.elim
        · exact h2.elim
    · exact h'.elim
theorem cs_extA {i : Nat} {x : Str} {e : Expr} {m : Sl → R O} {p pos : Pos} (hs : stB Γ i x = true) (he : CO G Γ e m) : CS G Γ (.AugAssign (.Name x p) .Add e pos) (sExt i m) := by
  unfold stB at hs
  obtain ⟨h1, h3⟩ := and2 hs
  obtain ⟨h1, h2⟩ := and2 h1
  refine fun X ok W tk => PS.imp (ps_aug (i := i) (ti := rExt2) (by rw [ok.N]; exact ok.nd) (by rw [ok.N]; exact of_decide_eq_true h1) (by rw [ok.sc]; exact loc_of h2) (he X ok W tk) (fun pins s σ H x y v u Q I rx ry h => iop_ext pins s σ H x y v u Q I rx ry h) (ok.fnl x h3)) fun D σ H h => ?_
  obtain ⟨B, F0, L, F, A, R, h⟩ := h
  unfold sExt at h
  split at h
  · rename_i os0 e0
    obtain ⟨v0, Ai0, g1, g2, _⟩ := R.mut e0
    cases g2 with
    | @ml a us _ A' hH ra =>
      refine ⟨_, g1, B, F0, L, F, A, R, (pS.first R h).imp R fun o F1 H1 s1 R1 gr1 hc v C ow nC fC => ?_⟩
      rw [e0] at hc
      cases ow with
      | @ml b zs ps C' hHb rb =>
        dsimp only at hc
        split at hc
        · rename_i hz
          obtain ⟨v1, Ai, k1, k2, k3, k4, k5⟩ := R1.mut e0
          rw [g1] at k1; cases k1
          cases k2 with
          | @ml _ us1 _ A1 hH1 ra1 =>
            refine ⟨a, b, us1, zs, rfl, rfl, hH1, hHb, by rw [ra1.length, rb.length]; exact hz, ?_⟩
            have fresh : ∀ x ∈ b :: C', x ∉ A := fun x hx m => by
              obtain ⟨u, e⟩ := R.os.tracked x m
              rw [(fC x hx).2] at e; cases e
            have inA := k3 a List.mem_cons_self
            have nT := (List.nodup_cons.mp nC).2
            have freshT : ∀ x ∈ C', x ∉ A := fun x hx => fresh x (List.mem_cons_of_mem _ hx)
            obtain ⟨p1, p2⟩ := List.nodup_cons.mp k4
            obtain ⟨A2, R2⟩ := k5 (upd H1 a (.lst (us1 ++ zs))) (.ml (os0 ++ ps)) (a :: (A1 ++ C')) rfl
              (fun x hx _ => upd_ne (fun z => hx (by rw [z]; exact List.mem_cons_self)))
              (.ml upd_same (OwA.append (OwA.mono (.refl _) (fun x m => upd_ne (fun z => p1 (z ▸ m))) ra1) (OwA.mono (.refl _) (fun x m => upd_ne (fun z => freshT x m (z ▸ inA))) rb)))
              (List.nodup_cons.mpr ⟨fun m => (List.mem_append.mp m).elim p1 (fun m => freshT a m inA), List.nodup_append.mpr ⟨p2, nT, fun x hx y hy z => freshT y hy (z ▸ k3 x (List.mem_cons_of_mem _ hx))⟩⟩)
              (fun x m => by
                rcases List.mem_cons.mp m with rfl | m
                · exact .inl List.mem_cons_self
                · exact (List.mem_append.mp m).elim (fun m => .inl (List.mem_cons_of_mem _ m)) fun m => .inr ⟨(fC x (List.mem_cons_of_mem _ m)).1, R.sb.free (fC x (List.mem_cons_of_mem _ m)).2, freshT x m⟩)
            have e2 : σ.set i (some (.ref a)) = σ := by
              obtain ⟨hi, e⟩ := List.getElem?_eq_some_iff.mp g1
              rw [← e]; exact List.set_getElem_self hi
            show D.nx (σ.set i (some (.ref a))) _
            rw [e2]
            exact hc _ _ ⟨F1, A2, .refl _, R2⟩
        · exact hc.elim
      | v => exact hc.elim
      | mt => exact hc.elim
      | mk => exact hc.elim
      | mq => exact hc.elim
      | pin => exact hc.elim
      | me => exact hc.elim
      | mi => exact hc.elim
  · exact h.elim
end
end Eng

end
section
set_option Elab.async false
set_option linter.all false
set_option maxRecDepth 100000
set_option maxHeartbeats 4000000
/-! the engine, part 20: for x in ys, ys a list of owned things that x changes; ys is given up -/
namespace Eng
open PySem PySem.Spec PyProof.Rows L2
section
variable {G : Gd} {Γ : Gm} {W : WX} {B : Bd} {F0 F H : Hp} {L : Sl} {A : List Addr} {σ : L2.St}
def mvGo (j : Nat) (body : Sl → RS) : Sl → List O → RS
  | L, [] => .next L
  | L, o :: os => if okSet L j = true then (match body (L.set j (some o)) with
    | .next L2 => mvGo j body L2 os
    | .cont L2 => mvGo j body L2 os
    | _ => .stuck) else .stuck
def sForMv (i j : Nat) (body : Sl → RS) : Sl → RS := fun L => match L[i]? with
  | some (some (.ml os)) => if okSet L i = true then mvGo j body (L.set i none) os else .stuck
  | _ => .stuck
/-- the ground with some changeable things more -/
def more (B : Bd) (H : Hp) (C : List Addr) : Bd := ⟨fun a => if a ∈ C then H a else B.h a, B.p⟩
theorem Rl.more (R : Rl G B F0 L F A σ H) {C : List Addr} (h : ∀ a ∈ C, F a = none ∧ B.h a = none ∧ a ∉ A) : Rl G (more B H C) F0 L F A σ H where
  os := R.os
  nd := R.nd
  sf := R.sf
  f0 := R.f0
  sb := fun a u e => by
    unfold Eng.more at e
    dsimp only at e
    split at e
    · exact e
    · exact R.sb _ _ e
  fb := fun a h0 n => by
    by_cases m : a ∈ C
    · exact (h a m).1
    · refine R.fb a h0 ?_
      unfold Nt Eng.more at n
      dsimp only at n
      rw [if_neg m] at n
      exact n
  fa := fun a m => ⟨(R.fa a m).1, by
    unfold Eng.more
    dsimp only
    rw [if_neg fun mc => (h a mc).2.2 m]
    exact (R.fa a m).2⟩
  pn := R.pn
theorem Rl.less {H0 : Hp} {C : List Addr} (R : Rl G (Eng.more B H0 C) F0 L F A σ H) (hB : ∀ a ∈ C, B.h a = none) (hC : ∀ a ∈ C, ∃ u, H0 a = some u) : Rl G B F0 L F A σ H where
  os := R.os
  nd := R.nd
  sf := R.sf
  f0 := R.f0
  sb := fun a u e => R.sb a u (by
    unfold Eng.more
    dsimp only
    rw [if_neg fun m => by rw [hB a m] at e; cases e]
    exact e)
  fb := fun a h0 n => R.fb a h0 (by
    have m : a ∉ C := fun m => n.1 (hB a m)
    unfold Nt Eng.more
    dsimp only
    rw [if_neg m]
    exact n)
  fa := fun a m => ⟨(R.fa a m).1, by
    have := (R.fa a m).2
    unfold Eng.more at this
    dsimp only at this
    split at this
    · rename_i mc
      obtain ⟨u, e⟩ := hC a mc
      rw [e] at this; cases this
    · exact this⟩
  pn := R.pn
theorem OwA.mut {tg : Tg} {K : PySem.W.Frag} {mg : Str → Option Value} {F H : Hp} : ∀ {vs : List V} {os : List O} {A : List Addr}, OwA tg K mg F H vs os A → ∀ a ∈ A, ∃ u, H a = some u ∧ MutO u
  | _, _, _, .nil => fun _ m => nomatch m
  | _, _, _, .cons r t => fun a m => (List.mem_append.mp m).elim (Ow.mut r a) (OwA.mut t a)
theorem cs_forMv {i j : Nat} {x y : Str} {b : List Stmt} {body : Sl → RS} {p p2 pos : Pos} (hic : (varB Γ i x && Γ.cm) = true) (hj : stB Γ j y = true) (hb : CSs G Γ b body) : CS G Γ (.For (.Name y p) (.Name x p2) b [] pos) (sForMv i j body) := by
  obtain ⟨hi, hcm⟩ := and2 hic
  unfold varB at hi
  obtain ⟨h1, h4⟩ := and2 hi
  obtain ⟨h1, h3⟩ := and2 h1
  obtain ⟨h1, h2⟩ := and2 h1
  unfold stB at hj
  obtain ⟨k1, k3⟩ := and2 hj
  obtain ⟨k1, k2⟩ := and2 k1
  refine fun X ok W tk => PS.imp (ps_for ok.pass (ok.calm hcm) (pi_list (pe_var (i := i) (by rw [ok.N]; exact of_decide_eq_true h1) (by rw [ok.sc]; exact vis_of h2) (by simpa using h3) (by simpa using h4))) (pg_name (i := j) (by rw [ok.N]; exact ok.nd) (by rw [ok.N]; exact of_decide_eq_true k1) (by rw [ok.sc]; exact loc_of k2) (ok.fnl y k3)) (hb X ok W tk) (noSet_of rfl _)) fun D σ H h => ?_
  obtain ⟨B, F0, L, F, A, R, h⟩ := h
  unfold sForMv at h
  split at h
  · rename_i os eo
    split at h
    · rename_i hok
      obtain ⟨v, Ai, A1, q1, q2, q3, R1, q4, q5⟩ := R.take eo hok
      cases q2 with
      | @ml l vs _ C hH ra =>
        obtain ⟨n1, n2⟩ := List.nodup_cons.mp q3
        have hl0 := q4 l List.mem_cons_self
        -- the list's own row is read only from here on
        have s1 : Same F (upd F l (.lst vs)) := fun a u e => by rw [upd_ne (fun z => by rw [z, (R.fa l hl0.1).1] at e; cases e)]; exact e
        have R2 : Rl G B F0 (L.set i none) (upd F l (.lst vs)) A1 σ H := ⟨OwS.mono s1 (fun _ _ => rfl) R1.os, R1.nd, fun a u e => by
            by_cases z : a = l
            · subst z; rw [upd_same] at e; cases e; exact hH
            · rw [upd_ne z] at e; exact R.sf _ _ e, R1.f0.trans s1, R1.sb, fun a h0 n => by
            have z : a ≠ l := fun z => n.1 (by rw [z]; exact (R.fa l hl0.1).2)
            rw [upd_ne z]; exact R1.fb a h0 n, fun a m => ⟨by rw [upd_ne (fun (z : a = l) => hl0.2 (z ▸ m))]; exact (R1.fa a m).1, (R1.fa a m).2⟩, R1.pn⟩
        have hlen : vs.length = os.length := ra.length
        refine ⟨_, q1, l, rfl, ⟨vs, .inl (.inl hH)⟩, ?_⟩
        refine ⟨fun c m σ H => m = os.length - c ∧ c ≤ os.length ∧ ∃ Li Fi Ai Cc, Same (upd F l (.lst vs)) Fi ∧ Rl G B F0 Li Fi Ai σ H ∧ OwA G.tg G.K G.mg Fi H (vs.drop c) (os.drop c) Cc ∧ Cc.Nodup ∧ (∀ a ∈ Cc, Fi a = none ∧ B.h a = none ∧ a ∉ Ai) ∧ pS G W B F0 Fi (mvGo j body Li (os.drop c)) D,
          ⟨_, rfl, Nat.zero_le _, L.set i none, _, A1, C, .refl _, R2, OwA.mono s1 (fun _ _ => rfl) ra, n2, fun a m => ⟨by rw [upd_ne (fun (z : a = l) => n1 (z ▸ m))]; exact (R.fa a (q4 a (List.mem_cons_of_mem _ m)).1).1, (R.fa a (q4 a (List.mem_cons_of_mem _ m)).1).2, (q4 a (List.mem_cons_of_mem _ m)).2⟩, pS.mono s1 h⟩, fun c m σi Hi hW => ?_⟩
        obtain ⟨rfl, hc, Li, Fi, Ai', Cc, si, Ri, ro, nC, fC, hp⟩ := hW
        have sq : SqL X.K Hi l vs := .inl (.inl (Ri.sf _ _ (si _ _ upd_same)))
        by_cases hlt : c < os.length
        · have hv : c < vs.length := by omega
          rw [List.drop_eq_getElem_cons hlt] at hp
          rw [List.drop_eq_getElem_cons hlt, List.drop_eq_getElem_cons hv] at ro
          unfold mvGo at hp
          split at hp
          · rename_i okj
            cases ro with
            | @cons _ _ _ _ C1 C2 r1 r2 =>
              obtain ⟨m1, m2, m3⟩ := List.nodup_append.mp nC
              refine .inr ⟨⟨vs, _, sq, List.getElem?_eq_getElem hv⟩, fun σ' H' => c + 1 ≤ os.length ∧ ∃ Lj Fj Aj Cj, Same (upd F l (.lst vs)) Fj ∧ Rl G B F0 Lj Fj Aj σ' H' ∧ OwA G.tg G.K G.mg Fj H' (vs.drop (c + 1)) (os.drop (c + 1)) Cj ∧ Cj.Nodup ∧ (∀ a ∈ Cj, Fj a = none ∧ B.h a = none ∧ a ∉ Aj) ∧ pS G W B F0 Fj (mvGo j body Lj (os.drop (c + 1))) D, fun σ' H' hn => ⟨os.length - (c + 1), by omega, rfl, hn⟩, fun x H' hy => ?_⟩
              obtain ⟨rfl, hy⟩ := hy
              have ex := hy vs sq
              rw [List.getElem?_eq_getElem hv] at ex
              cases ex
              obtain ⟨A', t1, t2, t3⟩ := Ri.os.put (okSet_of okj).1 r1
              have R3 : Rl G B F0 (Li.set j (some os[c])) Fi A' (σi.set j (some vs[c])) H' := ⟨t1, t3 Ri.nd m1 (fun a m => (fC a (List.mem_append_left _ m)).2.2), Ri.sf, Ri.f0, Ri.sb, Ri.fb, fun a m => (t2 a m).elim (Ri.fa a) fun m => ⟨(fC a (List.mem_append_left _ m)).1, (fC a (List.mem_append_left _ m)).2.1⟩, pn_set (okSet_of okj).2 Ri.pn⟩
              have f2 : ∀ a ∈ C2, Fi a = none ∧ B.h a = none ∧ a ∉ A' := fun a m => ⟨(fC a (List.mem_append_right _ m)).1, (fC a (List.mem_append_right _ m)).2.1, fun m' => (t2 a m').elim (fC a (List.mem_append_right _ m)).2.2 fun m' => m3 a m' a m rfl⟩
              have tr : ∀ a ∈ C2, ∃ u, H' a = some u ∧ MutO u := fun a m => OwA.mut r2 a m
              have back : ∀ (M2 : Sl) (σ3 : L2.St) (H3 : Hp), Rel G (more B H' C2) F0 Fi M2 σ3 H3 → pS G W B F0 Fi (mvGo j body M2 (os.drop (c + 1))) D → c + 1 ≤ os.length ∧ ∃ Lj Fj Aj Cj, Same (upd F l (.lst vs)) Fj ∧ Rl G B F0 Lj Fj Aj σ3 H3 ∧ OwA G.tg G.K G.mg Fj H3 (vs.drop (c + 1)) (os.drop (c + 1)) Cj ∧ Cj.Nodup ∧ (∀ a ∈ Cj, Fj a = none ∧ B.h a = none ∧ a ∉ Aj) ∧ pS G W B F0 Fj (mvGo j body Lj (os.drop (c + 1))) D := by
                rintro M2 σ3 H3 ⟨F3, A3, s3, R4⟩ hp
                have at2 : ∀ a ∈ C2, (more B H' C2).h a = H' a := fun a m => by unfold more; dsimp only; rw [if_pos m]
                refine ⟨hlt, M2, F3, A3, C2, si.trans s3, R4.less (fun a m => (f2 a m).2.1) (fun a m => (tr a m).imp fun _ h => h.1), OwA.mono s3 (fun a m => ?_) r2, m2, fun a m => ⟨?_, (f2 a m).2.1, fun m' => ?_⟩, pS.mono s3 hp⟩
                · obtain ⟨u, e, _⟩ := tr a m
                  rw [e]
                  exact R4.sb a u (by rw [at2 a m]; exact e)
                · obtain ⟨u, e, mu⟩ := tr a m
                  refine R4.fb a ?_ ?_
                  · cases e0 : F0 a with
                    | none => rfl
                    | some w => have := Ri.f0 _ _ e0; rw [(f2 a m).1] at this; cases this
                  · refine nt_of (by rw [at2 a m]; exact e) fun xs z => ?_
                    rw [z] at mu; exact mu
                · obtain ⟨u, e, _⟩ := tr a m
                  have := (R4.fa a m').2
                  rw [at2 a m, e] at this; cases this
              refine ⟨more B H' C2, F0, _, Fi, A', R3.more f2, ?_⟩
              cases e2 : body (Li.set j (some os[c])) with
              | next L2 => rw [e2] at hp; exact fun σ3 H3 r => back L2 σ3 H3 r hp
              | cont L2 => rw [e2] at hp; exact fun σ3 H3 r => back L2 σ3 H3 r hp
              | brk L2 => rw [e2] at hp; exact hp.elim
              | ret o L2 => rw [e2] at hp; exact hp.elim
              | exc c L2 => rw [e2] at hp; exact hp.elim
              | stuck => rw [e2] at hp; exact hp.elim
          · exact hp.elim
        · have hn : os.length ≤ c := by omega
          rw [List.drop_eq_nil_of_le hn] at hp
          exact .inl ⟨⟨vs, sq, by omega⟩, hp σi Hi ⟨Fi, Ai', .refl _, Ri⟩⟩
    · exact h.elim
  · exact h.elim
/-! ### a list of owned things made -/
def tAO (G : Gd) (W : WX) (m : Sl → R (List O)) : TA := fun σ H Q => ∃ B F0 L F A, Rl G B F0 L F A σ H ∧ pG G W σ F H (m L) fun os F' H' => ∀ vs C, OwA G.tg G.K G.mg F' H' vs os C → C.Nodup → (∀ a ∈ C, F' a = none ∧ H a = none) → Q vs H'
def CAO (G : Gd) (Γ : Gm) (es : List Expr) (m : Sl → R (List O)) : Prop := ∀ X, Γ.Ok G X → ∀ W, Takes X W → PA X es (tAO G W m)
def oNil : Sl → R (List O) := fun _ => .ok []
def oCons (m : Sl → R O) (r : Sl → R (List O)) : Sl → R (List O) := fun L => (m L).bind fun o => (r L).bind fun os => .ok (o :: os)
theorem cao_nil : CAO G Γ [] oNil := fun X ok W tk => PA.imp pa_nil fun σ H Q h => by
  obtain ⟨B, F0, L, F, A, R, h⟩ := h
  exact h F H (Grow.refl R.sf) [] [] .nil List.nodup_nil fun _ m => nomatch m
theorem cao_cons {e : Expr} {es : List Expr} {m : Sl → R O} {r : Sl → R (List O)} (hs : nst e = true) (he : CO G Γ e m) (hr : CAO G Γ es r) : CAO G Γ (e :: es) (oCons m r) := by
  refine fun X ok W tk => PA.imp (pa_cons (he X ok W tk) (hr X ok W tk) (star_cons hs)) fun σ H Q h => ?_
  obtain ⟨B, F0, L, F, A, R, h⟩ := h
  refine ⟨B, F0, L, F, A, R, (pG.bind h).imp R fun o F1 H1 s1 R1 g1 h1 v C ow nC fC => ?_⟩
  refine ⟨B, F0, L, F1, A, R1, (pG.bind h1).imp R1 fun os F2 H2 s2 R2 g2 h2 vs C2 ows nC2 fC2 => ?_⟩
  have tr : ∀ a ∈ C, ∃ u, H1 a = some u ∧ MutO u := fun a m => Ow.mut ow a m
  refine h2 F2 H2 (Grow.refl R2.sf) (v :: vs) (C ++ C2) (.cons (Ow.mono s2 (fun a m => ?_) ow) ows) (List.nodup_append.mpr ⟨nC, nC2, fun a ha b hb z => ?_⟩) fun a m => ?_
  · obtain ⟨u, e, _⟩ := tr a m
    rw [e]; exact g2.sH _ _ e
  · obtain ⟨u, e, _⟩ := tr a ha
    rw [z, (fC2 b hb).2] at e; cases e
  · rcases List.mem_append.mp m with m | m
    · obtain ⟨u, e, mu⟩ := tr a m
      exact ⟨g2.hf a (fC a m).1 (nt_of e fun xs z => by rw [z] at mu; exact mu), (fC a m).2⟩
    · exact ⟨(fC2 a m).1, g1.sH.free (fC2 a m).2⟩
def mLstO (m : Sl → R (List O)) : Sl → R O := fun L => (m L).bind fun os => if os.length ≤ sizeLine then .ok (.ml os) else .stuck
theorem co_lstO {es : List Expr} {m : Sl → R (List O)} {pos} (h : CAO G Γ es m) : CO G Γ (.List es pos) (mLstO m) := by
  refine fun X ok W tk => PE.imp (pe_lst (h X ok W tk)) fun σ H Q h => ?_
  obtain ⟨B, F0, L, F, A, R, h⟩ := h
  refine ⟨B, F0, L, F, A, R, (pG.bind h).imp R fun os F1 H1 s1 R1 g1 h1 vs C ow nC fC => ?_⟩
  split at h1
  · rename_i hl
    refine ⟨by rw [ow.length]; exact hl, fun p hp => ?_⟩
    have tr : ∀ a ∈ C, ∃ u, H1 a = some u ∧ MutO u := fun a m => OwA.mut ow a m
    have np : ∀ a ∈ C, a ≠ p := fun a m z => by
      obtain ⟨u, e, _⟩ := tr a m
      rw [z, hp] at e; cases e
    refine h1 F1 (upd H1 p (.lst vs)) ⟨fun a u e => ?_, .refl _, fun a u e => ?_, fun _ e _ => e⟩ (.ref p) (p :: C) (.ml upd_same (OwA.mono (.refl _) (fun a m => upd_ne (np a m)) ow)) (List.nodup_cons.mpr ⟨fun m => np p m rfl, nC⟩) fun a m => ?_
    · rw [upd_ne (ne_of_none e hp)]; exact e
    · rw [upd_ne (ne_of_none (R1.sf _ _ e) hp)]; exact R1.sf _ _ e
    · rcases List.mem_cons.mp m with rfl | m
      · exact ⟨R1.sf.free hp, g1.sH.free hp⟩
      · exact fC a m
  · exact h1.elim
end
end Eng

end
section
set_option Elab.async false
set_option linter.all false
set_option maxRecDepth 100000
set_option maxHeartbeats 4000000
/-! the engine, part 21: len(set(x)), x a list or a tuple of texts -/
namespace Eng
open PySem PySem.Spec PyProof.Rows L2
/-- how many texts, alike ones once; from the end -/
def distR : List Str → Nat
  | [] => 0
  | x :: r => if x ∈ r then distR r else distR r + 1
def dist (xs : List Str) : Nat := distR xs.reverse
theorem distR_le : ∀ xs : List Str, distR xs ≤ xs.length
  | [] => Nat.le_refl _
  | x :: r => by
    have := distR_le r
    unfold distR
    split <;> simp <;> omega
theorem dist_take {xs : List Str} {i : Nat} {z : Str} (h : xs[i]? = some z) : dist (xs.take (i + 1)) = if z ∈ xs.take i then dist (xs.take i) else dist (xs.take i) + 1 := by
  unfold dist
  rw [List.take_add_one, h]
  simp [distR]
section
variable {P : Program} {w : World} {A : Around} {E : Value → Shared → Prop} {s : Shared}
/-- the loop behind set(x): what stands in the set at i is what came ahead of i -/
theorem txt_loop {It : Addr} {fs ws : List Addr} {Gn : Array GenState → Array GenState → Prop} {m : Nat} {Pv : Nat → Value → Prop} {St : Nat → Shared → Prop} {Rs : Result → Shared → Prop}
    (Wk : WalksS P w A.in1 It fs ws Gn m Pv St) (D : Addr) (out : D ∉ fs) (xs : List Str) (em : m = xs.length) (few : xs.length + 1 < scanBound) (vals : ∀ i v, Pv i v → ∃ z t, xs[i]? = some z ∧ v = .str z t) :
    ∀ (left i : Nat) (s : Shared), m - i = left → i ≤ m → St i s → s.heap.SetOf (strKind P w) D (fun z => decide (z ∈ xs.take i)) (dist (xs.take i)) →
      (∀ s', Moved (D :: ws) Gn s s' → s'.heap.SetOf (strKind P w) D (fun z => decide (z ∈ xs)) (dist xs) → Rs (.ok (.ret .none)) s') →
      codeAny (model P w) A (.builtin "set.update.loop" ⟨[.ref D, .ref It], []⟩) Rs s := by
  have outW : D ∉ ws := fun z => out (Wk.sub _ z)
  have sub : ∀ b ∈ ws, b ∈ D :: ws := fun _ z => List.mem_cons_of_mem _ z
  have kept : ∀ {h1 h2 : Heap} {S : Str → Bool} {n : Nat}, h1.SetOf (strKind P w) D S n → (∀ o, h1.get? D = some o → h2.get? D = some o) → h2.SetOf (strKind P w) D S n := fun q k => by
    obtain ⟨o, es, ep, tb, ho, rest⟩ := q
    exact ⟨o, es, ep, tb, k o ho, rest⟩
  intro left
  induction left with
  | zero =>
    intro i s hl hi st q goal
    have ei : i = m := by omega
    subst ei
    rw [List.take_of_length_le (by omega)] at q
    refine codeAny_builtin F.entry_set_update_loop ?_
    rw [Around.under_plainId F.plain_set_update_loop _]
    show wpAny _ A.in1 (pyNext (.ref It) >>= _) _ _ s
    exact wpAny_bind (Wk.done s _ _ st fun s1 mv => wpAny_pure (goal s1 (mv.mono sub) (kept q fun o e => mv.heap D o outW e)))
  | succ left ih =>
    intro i s hl hi st q goal
    have lt : i < m := by omega
    refine codeAny_builtin F.entry_set_update_loop ?_
    rw [Around.under_plainId F.plain_set_update_loop _]
    show wpAny _ A.in1 (pyNext (.ref It) >>= _) _ _ s
    refine wpAny_bind (Wk.item i s _ _ lt st fun v s1 pv st1 mv => ?_)
    obtain ⟨z, t, ez, rfl⟩ := vals i v pv
    have q1 := kept (h2 := s1.heap) q fun o e => mv.heap D o outW e
    show wpAny _ A.in1 (holding [Value.str z t] (setAdd D (.str z t)) >>= _) _ _ s1
    refine wpAny_bind (wpAny_holding ?_)
    unfold setAdd
    have bd := distR_le (xs.take i).reverse
    rw [List.length_reverse, List.length_take] at bd
    refine wpAny_holding (wpAny_bind ((strKind P w).pyHash (k := z) (strKind_is _ _ _ _) ?_))
    refine wpAny_setAddHashed_of (knd := strKind P w) (s := { s1 with toks := s1.toks + 1 }) (strKind_is _ _ _ _) rfl q1 (by show dist (xs.take i) + 1 < scanBound; unfold dist; omega) fun h2 same q2 => ?_
    have q3 : h2.SetOf (strKind P w) D (fun y => decide (y ∈ xs.take (i + 1))) (dist (xs.take (i + 1))) := SetOf_congr q2 (fun y => by rw [List.take_add_one, ez]; simp [List.mem_append]) (by rw [dist_take ez]; simp)
    refine wpAny_pure ⟨plainId_quiet F.plain_set_update_loop _, ih (i + 1) _ (by omega) lt (Wk.frame _ s1 _ _ st1 (Nat.le_succ _) fun b hb o e => ?_) q3 fun s2 mv2 q4 => ?_⟩
    · exact (same.2 b (fun z => out (z ▸ hb))).trans e
    · exact goal s2 (Moved.trans Wk.gtrans ((mv.mono sub).then_heap (Nat.le_succ _) fun b o hb e => (same.2 b (fun z => hb (z ▸ List.mem_cons_self))).trans e) mv2) q4
/-- a new, empty set -/
abbrev newSet (w : World) : Obj := { cls := .type "set", dict := none, data := .set #[] 0 (.fresh 0 0 (!w.params.followText "set-order")) }
set_option maxHeartbeats 3200000 in
/-- set(t) of a tuple of texts -/
theorem set_of_tup {l : Addr} {its : Array Value} (xs : List Str) {Q : Value → Shared → Prop} (quiet : A.handled = none) (tup : s.heap.IsTuple l its) (txt : StrsAre its.toList xs) (few : xs.length + 1 < scanBound)
    (goal : ∀ (h' : Heap) (tk : Nat), h'.SetOf (strKind P w) s.heap.objs.size (fun z => decide (z ∈ xs)) (dist xs) → (∀ b o, s.heap.get? b = some o → h'.get? b = some o) → Q (.ref s.heap.objs.size) { s with heap := h', toks := tk }) :
    wpAny (model P w) A (call (.type "set") [.ref l]) Q E s := by
  have size : its.size = xs.length := by rw [← Array.length_toList]; exact StrsAre.length txt
  obtain ⟨c, tl, hmro⟩ := F.called_set.mro
  have hmade := F.called_set.made
  have hsub := F.called_set.sub
  refine wpAny_call (codeAny_of_tree (show wpAny _ _ (callAny (.type "set") _) _ _ _ from wpAny_pure ⟨Code.quiet_builtin _ (by decide +kernel), codeAny_builtin F.entry_type_call ?_⟩))
  rw [Around.under_plain (weight_type_call_type "set" [.ref l] []) rfl]
  have h1 := F.called_set.notType
  have h2 := F.called_set.canCreate
  have hct := F.typeCall_set_1 (.ref l)
  repeat (any_goals (first | assumption | wp_step))
  refine codeAny_mono (code_set_led1 (.ref l) (E := E) (Q₁ := fun obj s₁ => obj = .ref s.heap.objs.size ∧ s₁ = { s with heap := s.heap.push (newSet w) }) ⟨rfl, rfl⟩) fun r s₁ hr => ?_
  cases r with
  | error e => exact hr
  | ok fl =>
    cases fl with
    | ret obj =>
      obtain ⟨rfl, rfl⟩ := hr
      have at0 : (s.heap.push (newSet w)).get? s.heap.objs.size = some (newSet w) := Heap.get?_push_size _ rfl
      have hT : Shared.TypeIs { s with heap := s.heap.push (newSet w) } (.ref s.heap.objs.size) "set" := ⟨_, at0, rfl⟩
      have hli := F.called_set.init.lookup
      have hbi := F.called_set.init.bind (.ref s.heap.objs.size)
      repeat (any_goals (first | assumption | wp_step))
      refine codeAny_mono (codeAny_call_builtin (R := wants (fun r t => r = .none ∧ ∃ (h' : Heap) (tk : Nat), t = { s with heap := h', toks := tk } ∧ h'.SetOf (strKind P w) s.heap.objs.size (fun z => decide (z ∈ xs)) (dist xs) ∧ ∀ b o, s.heap.get? b = some o → h'.get? b = some o) E)
        F.called_set.init.plain F.entry_set_init (check_set_init_1 hT ?_)) fun r2 s2 res => ?_
      · have lt0 : l < s.heap.objs.size := by obtain ⟨o, ho, _⟩ := tup; exact Heap.lt_size ho
        have tup1 : (s.heap.push (newSet w)).IsTuple l its := tup.push _
        obtain ⟨ot, hot, hcl, nl, hdl⟩ := tup
        obtain ⟨ocls, odict, odata, oslots⟩ := ot
        simp only at hcl hdl
        subst hcl hdl
        have there : (s.heap.push (newSet w)).get? l = some { cls := .type "tuple", dict := odict, data := .seq its nl, slots := oslots } := Heap.get?_push_of_some _ hot
        have no1 := F.sub_tuple_set
        have no2 := F.sub_tuple_frozenset
        have no3 : (Value.type "tuple" == Value.type "dict") = false := by decide
        unfold Builtin.«set.__init__» noKeywords Builtin.Frozenset.updateFrom
        generalize hIt : pyIter = It
        wp_walk
        subst hIt
        refine wpAny_pyIter_tuple tup1 (wpAny_bind (wpAny_runValue ?_))
        have q3 : A.in1.in1.in1.handled = none := by simp [quiet]
        have z1 : (s.heap.push (newSet w)).objs.size = s.heap.objs.size + 1 := Heap.size_push ..
        have neI : l ≠ (s.heap.push (newSet w)).objs.size := Nat.ne_of_lt (by rw [z1]; exact Nat.lt_succ_of_lt lt0)
        have out : s.heap.objs.size ∉ [(s.heap.push (newSet w)).objs.size, l] := by
          rw [z1]
          simp only [List.mem_cons, List.not_mem_nil, or_false, not_or]
          exact ⟨Nat.ne_of_lt (Nat.lt_succ_self _), Nat.ne_of_gt lt0⟩
        refine txt_loop ((Walks.tuple q3 _ l neI its).toS) s.heap.objs.size out xs size few (fun i v hv => ?_) (its.size - 0) 0 _ (by omega) (Nat.zero_le _) ⟨⟨_, Heap.get?_push_size _ rfl, rfl, rfl⟩, (tup1.push _)⟩ ?S0 ?S1
        · have hv2 : its.toList[i]? = some v := by rw [Array.getElem?_toList]; exact hv
          obtain ⟨t, e⟩ := SS.strs_at txt i v hv2
          have hi : i < xs.length := by rw [← size]; exact (Array.getElem?_eq_some_iff.mp hv).1
          exact ⟨xs[i], t, List.getElem?_eq_getElem hi, by rw [e, List.getD_eq_getElem?_getD, List.getElem?_eq_getElem hi]; rfl⟩
        case S0 =>
          refine SetOf_congr ((setObjOf_fresh (knd := strKind P w) (!w.params.followText "set-order")).setOf (Heap.get?_push_of_some _ at0) (by decide)) (fun z => by simp) ?_
          simp [dist, distR]
        case S1 =>
          intro t mv q
          obtain ⟨h', g2, d2, tk, os2⟩ := t
          have e1 : g2 = s.gens := mv.gens
          have e2 : d2 = s.drawn := mv.drawn
          have e3 : os2 = s.os := mv.os
          subst e1 e2 e3
          show wpAny _ _ _ _ _ _
          refine wpAny_pure (show wpAny _ _ (ret Value.none) _ _ _ from wpAny_pure ⟨rfl, h', tk, rfl, q, fun b o e => ?_⟩)
          have b0 : b < s.heap.objs.size := Heap.lt_size e
          refine mv.heap b o ?_ (Heap.get?_push_of_some _ (Heap.get?_push_of_some _ e))
          simp only [List.mem_cons, List.not_mem_nil, or_false, not_or]
          exact ⟨Nat.ne_of_lt b0, Nat.ne_of_lt (by rw [z1]; exact Nat.lt_succ_of_lt b0)⟩
      · cases r2 with
        | error e => exact res
        | ok fl2 =>
          cases fl2 with
          | ret r =>
            obtain ⟨rfl, h', tk, rfl, q1, q2⟩ := res
            repeat (any_goals (first | assumption | wp_step))
            exact goal _ _ q1 q2
          | _ => exact res.elim
    | _ => exact hr.elim
end
end Eng

end
section
set_option Elab.async false
set_option linter.all false
set_option maxRecDepth 100000
set_option maxHeartbeats 4000000
/-! the engine, part 22: try .. except, the caught error kept as a thing that is known -/
namespace Eng
open PySem PySem.Spec PyProof.Rows L2
section
variable {Y : Cx} {pins : List (Addr × Obj)} {σ : L2.St} {H : Hp} {s : Shared}
/-- a caught error becomes known -/
theorem seen (I : Inv Y pins σ H s) {a C : Addr} {d : Option Addr} {oe : Obj} {vs : Array Value} (ha : s.heap.get? a = some oe) (hz : Zc (.ref C) d oe) (hd : oe.data = .fields vs) (na : H a = none) (nL : a ≠ Y.env.locals)
    (n0 : a ∉ Y.ex → Y.s_0.heap.get? a = none) (np : ∀ p ∈ Y.pn ++ pins, p.1 ≠ a) : Inv Y pins σ (upd H a (.ext (ExAt a C d))) s := by
  have nc : ∀ x c, Y.env.cells.lookup x = some c → c ≠ a := fun x c e z => by
    obtain ⟨v, o, h1, h2⟩ := I.cell x c e
    rw [z, ha] at h1; cases h1
    rw [hd] at h2; cases h2
  refine ⟨I.ok, I.os, I.bare, ⟨I.base.keep, I.base.slot, fun b o e n hx => ?_, I.base.there, fun b xs e => ?_, fun b o u e => ?_, fun b ps e => ?_⟩, I.loc, I.cell, ?_, fun x c e => ?_, fun p hp => ?_, fun b u e => ?_, I.len⟩
  · rw [upd_ne (fun (z : b = a) => by rw [z, n0 (z ▸ hx)] at e; cases e)]; exact I.base.free b o e n hx
  · have q := I.base.tups b xs e
    rw [upd_ne (ne_of_none q na)]; exact q
  · have q := I.base.frzs b o u e
    rw [upd_ne (ne_of_none q na)]; exact q
  · obtain ⟨m, q⟩ := I.base.tbls b ps e
    exact ⟨m, by rw [upd_ne (ne_of_none q na)]; exact q⟩
  · rw [upd_ne (Ne.symm nL)]; exact I.free
  · rw [upd_ne (nc x c e)]; exact I.freeC x c e
  · obtain ⟨e, n, r⟩ := I.pin p hp
    exact ⟨e, by rw [upd_ne (np p hp)]; exact n, r⟩
  · by_cases hb : b = a
    · subst hb
      rw [upd_same] at e; cases e
      exact ⟨⟨oe, vs, ha, hz, hd⟩, ⟨oe, ha⟩, fun h1 h2 ⟨o, w, q1, q2, q3⟩ k => ⟨o, w, k _ q1, q2, q3⟩⟩
    · rw [upd_ne hb] at e
      exact (I.hok b u e).stay (fun _ _ _ q => q) (fun c q => by rw [upd_ne (ne_of_none q na)]; exact q) fun c xs q => by rw [upd_ne (ne_of_none q na)]; exact q
theorem inSuite (I : Inv Y pins σ H s) (a : Addr) : Inv (Y.suite a (Y.pn ++ pins)) [] σ H s :=
  ⟨I.ok.suite _ _, I.os, I.bare, I.base, I.loc, I.cell, I.free, I.freeC, fun p hp => I.pin p (by rw [List.append_nil] at hp; exact hp), I.hok, I.len⟩
theorem offSuite {a : Addr} {pn' : List (Addr × Obj)} (I : Inv (Y.suite a (Y.pn ++ pins)) pn' σ H s) (ok : Y.Ok) : Inv Y pins σ H s :=
  ⟨ok, I.os, I.bare, I.base, I.loc, I.cell, I.free, I.freeC, fun p hp => I.pin p (List.mem_append_left _ hp), I.hok, I.len⟩
end

/-- a clause: the class it names, the slot of its name, its suite by the error (its address, class, dict) -/
structure Hx where
  c : Value
  slot : Option Nat
  ts : Addr → Addr → Option Addr → TS
def hxSt (a : Addr) (σ : L2.St) : Option Nat → L2.St
  | none => σ
  | some i => σ.set i (some (.ref a))
def hxEnd (D : Ends) : Option Nat → Ends
  | none => D
  | some i => { nx := fun σ H => D.nx (σ.set i none) H, rt := D.rt, bk := fun σ H => D.bk (σ.set i none) H, ct := fun σ H => D.ct (σ.set i none) H }
/-- what the clauses wish of an error -/
def wHx (K : PySem.W.Frag) (Wo : WX) (D : Ends) : List Hx → WX
  | [] => Wo
  | h :: r => fun cls d σ H => ∃ b, PySem.W.exmOne K cls h.c = some b ∧ (b = true → ∃ C, cls = .ref C ∧ ∀ a, H a = none → h.ts a C d (hxEnd D h.slot) (hxSt a σ h.slot) (upd H a (.ext (ExAt a C d)))) ∧ (b = false → wHx K Wo D r cls d σ H)
inductive HdsX (Y : Cx) : List ExceptHandler → List Hx → Prop
  | nil : HdsX Y [] []
  | one {x : Str} {c : Value} {ts : Addr → Addr → Option Addr → TS} {b₀ : Stmt} {suite : List Stmt} {np p : Pos} {hds : List ExceptHandler} {l : List Hx} (hc : Names Y x c) (hsu : ∀ a C d pn, PSs (Y.suite a pn) (b₀ :: suite) (ts a C d)) (r : HdsX Y hds l) :
      HdsX Y (.ExceptHandler (some (.Name x np)) none (b₀ :: suite) p :: hds) (⟨c, none, ts⟩ :: l)
  | as {x n : Str} {i : Nat} {c : Value} {ts : Addr → Addr → Option Addr → TS} {b₀ : Stmt} {suite : List Stmt} {np p : Pos} {hds : List ExceptHandler} {l : List Hx} (hN : Y.N.Nodup) (hi : Y.N[i]? = some n) (hl : Y.env.kindOf n = some .local) (hc : Names Y x c)
      (hsu : ∀ a C d pn, PSs (Y.suite a pn) (b₀ :: suite) (ts a C d)) (r : HdsX Y hds l) :
      HdsX Y (.ExceptHandler (some (.Name x np)) (some n) (b₀ :: suite) p :: hds) (⟨c, some i, ts⟩ :: l)

section
variable {Y : Cx} {Wo : WX} {body : List Stmt} {h₀ : ExceptHandler} {hds : List ExceptHandler} {l : List Hx} {pos : Pos} {tb : WX → TS}
/-- the class of a clause is looked up -/
theorem clsName {x : Str} {c : Value} {np : Pos} {a : Addr} {pn pins : List (Addr × Obj)} {σ : L2.St} {H : Hp} {s : Shared} {Q E : Value → Shared → Prop} (hc : Names Y x c) (I : Inv (Y.suite a pn) pins σ H s) (q : Q c s) :
    wpAny (model Y.prog Y.w) (Y.A.mark (some (.ref a))) (eval (.Name x np) Y.env) Q E s := by
  obtain ⟨g, nd, m | ⟨m, v, nn⟩⟩ := hc
  · exact ld_glob (X := Y.suite a pn) I g m q nd
  · exact ld_blt (X := Y.suite a pn) I g m v q nn nd
theorem ps_tryX (hst : Y.stack = Y.env :: Y.outer) (hfl : Y.env.frame = some Y.env.locals) (tk : Takes Y Wo)
    (hb : ∀ (W : WX) (pn : List (Addr × Obj)) (xe : Value → Shared → Prop), Takes (Y.tr pn xe) W → PassesOwn (model Y.prog Y.w) Y.A Y.env xe → PSs (Y.tr pn xe) body (tb W)) (hh : HdsX Y (h₀ :: hds) l) :
    PS Y (.Try body (h₀ :: hds) [] [] pos) (fun D σ H => tb (wHx Y.K Wo D l) D σ H) := by
  constructor
  intro pins s σ H D I hw
  have ok := I.ok
  have hA : Y.A.frames = some (Y.env :: Y.outer) := ok.frames.trans (congrArg some hst)
  refine wpAny_Try_except (wpAny_mono ((hb (wHx Y.K Wo D l) (Y.pn ++ pins) _ (fun u s' xx => ?_) PassesOwn.looking).run [] s σ H D (I.toTry _) hw) (fun f s1 q => ?_) fun _ _ z => z)
  · obtain ⟨a, B, sI, ps', σ1, H1, cls, d, rfl, J0, nb, up, sky, na, os, ag, w⟩ := xx
    have J1 : Inv Y pins σ1 H1 sI := J0.ofTry ok
    have nB : B.get? a = none := by rcases sky with z | z | z <;> exact z.2.1
    have nI : ∀ o, sI.heap.get? a = some o → a ∈ frs Y.stack := fun o e => Classical.byContradiction fun z => by rw [nb a o e z] at nB; cases nB
    have sky1 : Sky B (Y.env :: Y.outer) a (Zc cls d) Y.env.locals s'.heap := by rw [← hst]; exact sky
    show wpAny (model Y.prog Y.w) Y.A (noteFrame (.ref a) Y.env) _ _ _
    refine Sky.land Zc.steady hA hfl sky1 fun h3 fl3 up3 => ?_
    have J3 : Inv Y pins σ1 H1 { s' with heap := h3 } := J1.landed nb fl3.1 (up.trans up3) os ag
    have off : a ∉ frs (Y.env :: Y.outer) := fun m => by
      obtain ⟨oe, vs, e, _, dd⟩ := fl3.there
      obtain ⟨_, o', e', nf⟩ := fl3.2.2.1.mem m
      rw [e] at e'; cases e'
      exact nf _ dd
    have nI' : sI.heap.get? a = none := by
      cases e : sI.heap.get? a with
      | none => rfl
      | some o => exact absurd (nI o e) (by rw [hst]; exact off)
    have nL : a ≠ Y.env.locals := fun z => off (List.mem_filterMap.mpr ⟨Y.env, List.mem_cons_self, by rw [hfl, z]⟩)
    have n0 : a ∉ Y.ex → Y.s_0.heap.get? a = none := fun hx => by
      cases e : Y.s_0.heap.get? a with
      | none => rfl
      | some o =>
        obtain ⟨o', e'⟩ := J1.base.there a o e hx
        rw [nI'] at e'; cases e'
    have noPin : ∀ p ∈ Y.pn ++ pins, p.1 ≠ a := fun p hp z => by
      have e := (J1.pin p hp).1
      rw [z, nI'] at e; cases e
    -- the clauses, one behind the other
    have go : ∀ {hs' : List ExceptHandler} {l' : List Hx}, HdsX Y hs' l' → wHx Y.K Wo D l' cls d σ1 H1 → wpAny (model Y.prog Y.w) Y.A (handleBy (.ref a) Y.env hs') (SP Y pins D) Y.xe { s' with heap := h3 } := by
      intro hs' l' hk
      have ends : ∀ {D' : Ends} {σ2 : L2.St} {H2 : Hp} {ts : TS} {s2 : Shared} {b₀ : Stmt} {su : List Stmt} {K : Flow → Shared → Prop} {E : Value → Shared → Prop}, PSs (Y.suite a (Y.pn ++ pins)) (b₀ :: su) ts → Inv (Y.suite a (Y.pn ++ pins)) [] σ2 H2 s2 → ts D' σ2 H2 →
          (∀ f s6, SP Y pins D' f s6 → K f s6) → wpAny (model Y.prog Y.w) (Y.A.mark (some (.ref a))) (execs (b₀ :: su) Y.env) K E s2 := fun {D' σ2 H2 ts s2 b₀ su K E} hs I2 w2 k => by
        refine wpAny_mono (hs.run [] s2 σ2 H2 D' I2 w2) (fun f s6 q => k f s6 ?_) (fun _ _ z => False.elim z)
        cases f with
        | next => obtain ⟨σ6, H6, S6, q⟩ := q; exact ⟨σ6, H6, offSuite S6 ok, q⟩
        | brk => obtain ⟨σ6, H6, S6, q⟩ := q; exact ⟨σ6, H6, offSuite S6 ok, q⟩
        | cont => obtain ⟨σ6, H6, S6, q⟩ := q; exact ⟨σ6, H6, offSuite S6 ok, q⟩
        | ret u => obtain ⟨v, σ6, H6, S6, r, q⟩ := q; exact ⟨v, σ6, H6, offSuite S6 ok, r, q⟩
      obtain ⟨oe3, vs3, e3, z3, d3⟩ := fl3.there
      have S3 : Inv (Y.suite a (Y.pn ++ pins)) [] σ1 H1 { s' with heap := h3 } := inSuite J3 a
      have typ : PySem.W.Looks (model Y.prog Y.w) h3 (typeOf (.ref a)) cls := fun _ _ _ _ k q => wpAny_typeOf_ref (k _ _ e3) (by rw [z3.1]; exact q)
      induction hk with
      | nil =>
        intro w
        have land : wpAny (model Y.prog Y.w) Y.A (setFlight (.ref a) Y.env.frame) (fun _ s4 => wpAny (model Y.prog Y.w) Y.A (throw (.ref a) : Sem Flow) (SP Y pins D) Y.xe s4) Y.xe { s' with heap := h3 } := by
          rw [hfl]
          refine HandSPX.setFlight_upZ fl3 fun h4 hh4 up4 => wpAny_throw (tk _ _ ?_)
          exact ⟨a, B, sI, pins, σ1, H1, cls, d, rfl, J1, nb, (up.trans up3).trans up4, .inr (.inr (by rw [hst]; exact hh4)), na, os, ag, w⟩
        obtain ⟨k1, k2, k3, oe, vs, T, oT, ts, p1, p2, p3, p4, p5⟩ := id fl3
        refine wpAny_handleBy_nil ?_
        unfold PySem.passOn
        refine wpAny_bind (wpAny_field p1 p3 p4 ?_)
        rw [if_neg (by simp)]
        first
          | exact wpAny_bind (wpAny_pure (wpAny_bind land))
          | exact wpAny_bind land
      | @one x c ts b₀ su np p hds2 l2 hc hsu r ih =>
        rintro ⟨b, hb1, yes, no⟩
        refine wpAny_handleBy_cons (codeAny_handlers_test (clsName hc S3 ((PySem.W.exm_one (M := model Y.prog Y.w) J3.kIn typ hb1).here ?_))) (by intro q; cases q)
        cases b with
        | false => exact ih (no rfl)
        | true =>
          refine codeAny_handlers_suite (HandSPX.lands_againZ fl3 fun h4 fl4 up4 => ?_)
          obtain ⟨oe4, vs4, e4, z4, d4⟩ := fl4.there
          obtain ⟨C, rfl, w2⟩ := yes rfl
          have J4 : Inv Y pins σ1 H1 { s' with heap := h4 } := J1.landed nb fl4.1 ((up.trans up3).trans up4) os ag
          exact ends (D' := D) (hsu a C d _) (inSuite (seen J4 e4 z4 d4 na nL n0 noPin) a) (w2 a na) fun f s6 q => q
      | @as x n i c ts b₀ su np p hds2 l2 hN hi hl hc hsu r ih =>
        rintro ⟨b, hb1, yes, no⟩
        refine wpAny_handleBy_cons (codeAny_handlers_test (clsName hc S3 ((PySem.W.exm_one (M := model Y.prog Y.w) J3.kIn typ hb1).here ?_))) (by intro q; cases q)
        cases b with
        | false => exact ih (no rfl)
        | true =>
          refine codeAny_handlers_suite_as (HandSPX.lands_againZ fl3 fun h4 fl4 up4 => ?_)
          obtain ⟨oe4, vs4, e4, z4, d4⟩ := fl4.there
          obtain ⟨C, rfl, w2⟩ := yes rfl
          have J4 : Inv Y pins σ1 H1 { s' with heap := h4 } := J1.landed nb fl4.1 ((up.trans up3).trans up4) os ag
          refine store_ok (X := Y.suite a (Y.pn ++ pins)) (v := .ref a) (inSuite (seen J4 e4 z4 d4 na nL n0 noPin) a) hN hi (.inl hl) rfl (fun s5 S5 => ?_) (.inr hl)
          refine ends (hsu a C d _) S5 (w2 a na) fun f s6 q => ?_
          cases f with
          | next => obtain ⟨σ6, H6, S6, q⟩ := q; exact gone_ok S6 hN hi hl fun s7 J7 => ⟨_, H6, J7, q⟩
          | brk => obtain ⟨σ6, H6, S6, q⟩ := q; exact gone_ok S6 hN hi hl fun s7 J7 => ⟨_, H6, J7, q⟩
          | cont => obtain ⟨σ6, H6, S6, q⟩ := q; exact gone_ok S6 hN hi hl fun s7 J7 => ⟨_, H6, J7, q⟩
          | ret u => obtain ⟨v, σ6, H6, S6, r, q⟩ := q; exact gone_ok S6 hN hi hl fun s7 J7 => ⟨v, _, H6, J7, r, q⟩
    exact go hh w
  · cases f with
    | next => obtain ⟨σ2, H2, J, q⟩ := q; exact wpAny_execs_nil ⟨σ2, H2, J.ofTry ok, q⟩
    | brk => obtain ⟨σ2, H2, J, q⟩ := q; exact ⟨σ2, H2, J.ofTry ok, q⟩
    | cont => obtain ⟨σ2, H2, J, q⟩ := q; exact ⟨σ2, H2, J.ofTry ok, q⟩
    | ret u => obtain ⟨v, σ2, H2, J, r, q⟩ := q; exact ⟨v, σ2, H2, J.ofTry ok, r, q⟩
end
end Eng

end
section
set_option Elab.async false
set_option linter.all false
set_option maxRecDepth 100000
set_option maxHeartbeats 4000000
/-! the engine, part 23: try .. except by value -/
namespace Eng
open PySem PySem.Spec PyProof.Rows L2
section
variable {G : Gd} {Γ : Gm} {W : WX} {B : Bd} {F0 F H : Hp} {L : Sl} {A : List Addr} {σ : L2.St}
/-- the table in an except suite -/
abbrev Gm.hot (Γ : Gm) : Gm := { Γ with cm := false }
theorem Gm.Gr.hot (gr : Γ.Gr G) : Γ.hot.Gr G := ⟨gr.fn, gr.bl, gr.cs, gr.ex, gr.is, gr.mkx, gr.mt, gr.ec, gr.isc⟩
theorem Gm.Ok.suite {X : Cx} (ok : Γ.Ok G X) (a : Addr) (pn : List (Addr × Obj)) : Γ.hot.Ok G (X.suite a pn) :=
  ⟨ok.prog, ok.w, ok.K, ok.mg, ok.base, ok.N, ok.nd, ok.sc, ok.kind, (fun z => nomatch z), (fun z => nomatch z), ok.un, PassesOwn.never, ok.fnl, ok.stk⟩
theorem Gm.Ok.tr {X : Cx} (ok : Γ.Ok G X) {pn : List (Addr × Obj)} {xe : Value → Shared → Prop} (h : PassesOwn (model X.prog X.w) X.A X.env xe) : Γ.Ok G (X.tr pn xe) :=
  ⟨ok.prog, ok.w, ok.K, ok.mg, ok.base, ok.N, ok.nd, ok.sc, ok.kind, ok.calm, ok.room, ok.un, h, ok.fnl, ok.stk⟩
/-- is an error of class c one that h names -/
def lookM (M : List (Str × Str × Bool)) (c h : Str) : Option Bool := (M.find? fun p => decide (p.1 = c) && decide (p.2.1 = h)).map (·.2.2)
theorem lookM_mem {M : List (Str × Str × Bool)} {c h : Str} {b : Bool} (e : lookM M c h = some b) : (c, h, b) ∈ M := by
  unfold lookM at e
  cases q : M.find? fun p => decide (p.1 = c) && decide (p.2.1 = h) with
  | none => rw [q] at e; cases e
  | some p =>
    rw [q] at e
    have m := List.mem_of_find?_eq_some q
    have z := List.find?_some q
    obtain ⟨x, y, k⟩ := p
    simp at z e
    obtain ⟨rfl, rfl⟩ := z
    subst e
    exact m
structure Hd where
  h : Str
  slot : Option Nat
  su : Sl → RS
def noExc : RS → RS
  | .exc _ _ => .stuck
  | r => r
def offS (i : Nat) : RS → RS
  | .next L => if isPin L i = true then .stuck else .next (L.set i none)
  | .brk L => if isPin L i = true then .stuck else .brk (L.set i none)
  | .cont L => if isPin L i = true then .stuck else .cont (L.set i none)
  | .ret o L => .ret o L
  | _ => .stuck
def hGo (M : List (Str × Str × Bool)) : List Hd → Str → Sl → RS
  | [], c, L => .exc c L
  | x :: r, c, L => match lookM M c x.h with
    | none => .stuck
    | some false => hGo M r c L
    | some true => match x.slot with
      | none => noExc (x.su L)
      | some i => if okSet L i = true then offS i (x.su (L.set i (some (.v (.exn c []))))) else .stuck
def sTry (M : List (Str × Str × Bool)) (b : Sl → RS) (hs : List Hd) : Sl → RS := fun L => match b L with
  | .exc c L' => hGo M hs c L'
  | r => r
/-- the clauses, with the slots of their names -/
inductive CHs (G : Gd) (Γ : Gm) : List ExceptHandler → List Hd → Prop
  | nil : CHs G Γ [] []
  | one {x : Str} {b₀ : Stmt} {suite : List Stmt} {np p : Pos} {hds : List ExceptHandler} {l : List Hd} {su : Sl → RS} (hc : (glB Γ.sc x && !(x == ("__debug__" : Str))) = true) (hsu : CSs G Γ.hot (b₀ :: suite) su) (r : CHs G Γ hds l) :
      CHs G Γ (.ExceptHandler (some (.Name x np)) none (b₀ :: suite) p :: hds) (⟨x, none, su⟩ :: l)
  | as {x n : Str} {i : Nat} {b₀ : Stmt} {suite : List Stmt} {np p : Pos} {hds : List ExceptHandler} {l : List Hd} {su : Sl → RS} (hc : (decide (Γ.N[i]? = some n) && (match Γ.sc.names.lookup n with | some .local => true | _ => false) && glB Γ.sc x && !(x == ("__debug__" : Str))) = true)
      (hsu : CSs G Γ.hot (b₀ :: suite) su) (r : CHs G Γ hds l) :
      CHs G Γ (.ExceptHandler (some (.Name x np)) (some n) (b₀ :: suite) p :: hds) (⟨x, some i, su⟩ :: l)
/-- the value that a name of a class gives -/
noncomputable def clsVal (G : Gd) (h : Str) : Value := match G.mg h with | some v => v | none => (bootBuiltins h).getD .none
theorem NmCls.val {h : Str} {cv : Value} (n : NmCls G h cv) : clsVal G h = cv := by
  unfold clsVal
  rcases n with ⟨C, rfl, e⟩ | ⟨n, rfl, e, e2, _⟩
  · rw [e]
  · rw [e, e2]; rfl
noncomputable def hxOf (G : Gd) (x : Hd) : Hx := ⟨clsVal G x.h, x.slot, fun _ _ _ => tS G (fun _ _ _ _ => False) x.su⟩
theorem names_of (gr : Γ.Gr G) {X : Cx} (ok : Γ.Ok G X) {x : Str} (hg : glB Γ.sc x = true) (hd : (x == ("__debug__" : Str)) = false) (hm : ∃ p ∈ Γ.M, p.2.1 = x) : Names X x (clsVal G x) := by
  obtain ⟨p, m, rfl⟩ := hm
  obtain ⟨C, cv, e1, e2, e3, e4⟩ := gr.mt p m
  rw [e2.val]
  refine ⟨gl_of ok.sc hg, hd, ?_⟩
  rcases e2 with ⟨C, rfl, e⟩ | ⟨n, rfl, e, e2, nn⟩
  · exact .inl (by rw [ok.mg]; exact e)
  · exact .inr ⟨by rw [ok.mg]; exact e, e2, nn⟩
theorem hdsx_of (gr : Γ.Gr G) {X : Cx} (ok : Γ.Ok G X) : ∀ {hds : List ExceptHandler} {l : List Hd}, CHs G Γ hds l → (∀ x ∈ l, ∃ p ∈ Γ.M, p.2.1 = x.h) → HdsX X hds (l.map (hxOf G)) := by
  intro hds l hc
  induction hc with
  | nil => intro _; exact .nil
  | one h1 h2 r ih =>
    intro hm
    obtain ⟨g, nd⟩ := and2 h1
    exact .one (names_of gr ok g (by simpa using nd) (hm _ List.mem_cons_self)) (fun a C d pn => h2 _ (ok.suite a pn) _ takes0) (ih fun x m => hm x (List.mem_cons_of_mem _ m))
  | as h1 h2 r ih =>
    intro hm
    obtain ⟨h1, nd⟩ := and2 h1
    obtain ⟨h1, g⟩ := and2 h1
    obtain ⟨hn, hl⟩ := and2 h1
    exact .as (by rw [ok.N]; exact ok.nd) (by rw [ok.N]; exact of_decide_eq_true hn) (by unfold Env.kindOf; rw [ok.sc]; exact lookLocal hl) (names_of gr ok g (by simpa using nd) (hm _ List.mem_cons_self)) (fun a C d pn => h2 _ (ok.suite a pn) _ takes0) (ih fun x m => hm x (List.mem_cons_of_mem _ m))
theorem hGo_w (gr : Γ.Gr G) {X : Cx} (ok : Γ.Ok G X) {D' : Ends} {c : Str} {C : Addr} (eC : G.mg c = some (.ref C)) : ∀ {l : List Hd} {σ : L2.St} {H : Hp}, (∀ x ∈ l, bootBuiltins x.h = none) → Rel G B F0 F L σ H → pS G W B F0 F (hGo Γ.M l c L) D' → wHx X.K W D' (l.map (hxOf G)) (.ref C) none σ H := by
  intro l
  induction l with
  | nil =>
    intro σ H hl R h
    obtain ⟨C', e, h⟩ := h
    rw [eC] at e; cases e
    exact h σ H R
  | cons x r ih =>
    intro σ H hl R h
    unfold hGo at h
    cases e : lookM Γ.M c x.h with
    | none => rw [e] at h; exact h.elim
    | some b =>
      rw [e] at h
      obtain ⟨C', cv, k1, k2, k3, k4⟩ := gr.mt _ (lookM_mem e)
      dsimp only at k1 k2 k3
      rw [eC] at k1; cases k1
      have kr : ∃ D, cv = .ref D := by
        rcases k2 with ⟨D, q, _⟩ | ⟨n, _, _, q, _⟩
        · exact ⟨D, q⟩
        · rw [hl x List.mem_cons_self] at q; cases q
      obtain ⟨D, rfl⟩ := kr
      have k3 := k3 D rfl
      refine ⟨b, by rw [ok.K]; show PySem.W.exmOne G.K (.ref C) (clsVal G x.h) = some b; rw [k2.val]; exact k3, ?_⟩
      cases b with
      | false => exact ⟨(fun z => nomatch z), fun _ => ih (fun y m => hl y (List.mem_cons_of_mem _ m)) R h⟩
      | true =>
        refine ⟨fun _ => ⟨C, rfl, fun a na => ?_⟩, fun z => nomatch z⟩
        obtain ⟨F', A', s', R'⟩ := R
        obtain ⟨s2, R2⟩ := R'.frz (.ext (ExAt a C none)) na
        have s3 := s'.trans s2
        show tS G _ x.su (hxEnd D' x.slot) (hxSt a σ x.slot) _
        cases es : x.slot with
        | none =>
          rw [es] at h
          refine ⟨B, F0, L, _, A', R2, ?_⟩
          have h := pS.mono s3 h
          dsimp only at h
          cases e2 : x.su L with
          | exc c L2 => rw [e2] at h; exact h.elim
          | _ => rw [e2] at h; exact h
        | some i =>
          rw [es] at h
          dsimp only at h
          split at h
          · rename_i hok
            have rp : Rp G.K G.mg (upd F' a (.ext (ExAt a C none))) (.ref a) (.exn c []) := .exn (d := none) upd_same eC (.inl ⟨rfl, rfl⟩) .nil
            obtain ⟨A3, R3⟩ := R2.set (okSet_of hok).1 (okSet_of hok).2 rp
            refine ⟨B, F0, _, _, A3, R3, ?_⟩
            have h := pS.mono s3 h
            have off : ∀ {M2 : Sl} {K : L2.St → Hp → Prop}, (∀ σ' H', Rel G B F0 (upd F' a (.ext (ExAt a C none))) (M2.set i none) σ' H' → K σ' H') → isPin M2 i = false → ∀ σ' H', Rel G B F0 (upd F' a (.ext (ExAt a C none))) M2 σ' H' → K (σ'.set i none) H' := fun {M2 K} hk hp σ' H' ⟨F4, A4, s4, R4⟩ => by
              obtain ⟨A5, _, R5⟩ := R4.drop i none hp
              exact hk _ _ ⟨F4, A5, s4, R5⟩
            cases e2 : x.su (L.set i (some (.v (.exn c [])))) with
            | exc c M2 => rw [e2] at h; exact h.elim
            | stuck => rw [e2] at h; exact h.elim
            | ret o M2 => rw [e2] at h; exact h
            | next M2 =>
              rw [e2] at h
              cases hp : isPin M2 i with
              | true => exact (show False by simp only [offS, hp, if_true] at h; exact h).elim
              | false => exact off (by simp only [offS, hp, Bool.false_eq_true, if_false] at h; exact h) hp
            | brk M2 =>
              rw [e2] at h
              cases hp : isPin M2 i with
              | true => exact (show False by simp only [offS, hp, if_true] at h; exact h).elim
              | false => exact off (by simp only [offS, hp, Bool.false_eq_true, if_false] at h; exact h) hp
            | cont M2 =>
              rw [e2] at h
              cases hp : isPin M2 i with
              | true => exact (show False by simp only [offS, hp, if_true] at h; exact h).elim
              | false => exact off (by simp only [offS, hp, Bool.false_eq_true, if_false] at h; exact h) hp
          · exact h.elim
theorem hGo_C (gr : Γ.Gr G) {D' : Ends} {c : Str} {l : List Hd} (h : pS G W B F0 F (hGo Γ.M l c L) D') : ∃ C, G.mg c = some (.ref C) := by
  cases l with
  | nil => obtain ⟨C, e, _⟩ := h; exact ⟨C, e⟩
  | cons x r =>
    unfold hGo at h
    cases e : lookM Γ.M c x.h with
    | none => rw [e] at h; exact h.elim
    | some b => obtain ⟨C, cv, k1, _⟩ := gr.mt _ (lookM_mem e); exact ⟨C, k1⟩
/-- try: body, except clauses -/
theorem cs_try (gr : Γ.Gr G) {M : List (Str × Str × Bool)} {body : List Stmt} {h₀ : ExceptHandler} {hds : List ExceptHandler} {l : List Hd} {m : Sl → RS} {pos : Pos} (hM : Γ.M = M) (hc : (Γ.tp && l.all fun x => (Γ.M.any fun p => decide (p.2.1 = x.h)) && (bootBuiltins x.h).isNone) = true) (hb : CSs G Γ body m) (hh : CHs G Γ (h₀ :: hds) l) :
    CS G Γ (.Try body (h₀ :: hds) [] [] pos) (sTry M m l) := by
  subst hM
  obtain ⟨tp, hc⟩ := and2 hc
  have hm : ∀ x ∈ l, ∃ p ∈ Γ.M, p.2.1 = x.h := fun x mx => by
    have := List.all_eq_true.mp hc x mx
    obtain ⟨p, h1, h2⟩ := List.any_eq_true.mp (and2 this).1
    exact ⟨p, h1, of_decide_eq_true h2⟩
  have hbb : ∀ x ∈ l, bootBuiltins x.h = none := fun x mx => by
    have := (and2 (List.all_eq_true.mp hc x mx)).2
    simpa using this
  refine fun X ok W tk => PS.imp (ps_tryX (ok.stk tp).1 (ok.stk tp).2 tk (fun W' pn xe tk' pa => hb _ (ok.tr pa) W' tk') (hdsx_of gr ok hh hm)) fun D σ H h => ?_
  obtain ⟨B, F0, L, F, A, R, h⟩ := h
  refine ⟨B, F0, L, F, A, R, ?_⟩
  unfold sTry at h
  cases e : m L with
  | exc c L' =>
    rw [e] at h
    obtain ⟨C, eC⟩ := hGo_C gr h
    exact ⟨C, eC, fun σ' H' R' => hGo_w gr ok eC hbb R' h⟩
  | _ => rw [e] at h; exact h
end
end Eng

end
section
set_option Elab.async false
set_option linter.all false
set_option maxRecDepth 100000
set_option maxHeartbeats 4000000
/-! the engine, part 24: isinstance(error, class), isinstance(error, (class, ..)) -/
namespace Eng
open PySem PySem.Spec PyProof.Rows L2
section
variable {G : Gd} {Γ : Gm} {W : WX} {B : Bd} {F0 F H : Hp} {L : Sl} {A : List Addr} {σ : L2.St}
def anyIs (M : List (Str × Str × Bool)) (c : Str) : List Str → Option Bool
  | [] => some false
  | h :: r => match lookM M c h with
    | none => none
    | some true => some true
    | some false => anyIs M c r
def fIsE (M : List (Str × Str × Bool)) (hs : List Str) : D → Option D
  | .exn c [] => (anyIs M c hs).map .bl
  | _ => none
/-- the value of a class's name in a slot -/
def clsV : Value → V
  | .ref a => .ref a
  | .type n => .ty n
  | _ => .non
theorem NmCls.v {h : Str} {cv : Value} (n : NmCls G h cv) : RelV (clsV cv) cv ∧ ClsV (clsV cv) cv := by
  rcases n with ⟨C, rfl, e⟩ | ⟨n, rfl, e, e2, _⟩
  · exact ⟨rfl, .own C⟩
  · exact ⟨rfl, .ty n⟩
/-- names of classes of errors that the table knows -/
def nmB (Γ : Gm) (h : Str) : Bool := glB Γ.sc h && !(h == ("__debug__" : Str)) && Γ.M.any fun p => decide (p.2.1 = h)
theorem pe_nm (gr : Γ.Gr G) {X : Cx} (ok : Γ.Ok G X) {h : Str} {p : Pos} (hb : nmB Γ h = true) : PE X (.Name h p) (tC (clsV (clsVal G h))) ∧ NmCls G h (clsVal G h) := by
  obtain ⟨hb, hm⟩ := and2 hb
  obtain ⟨hg, hd⟩ := and2 hb
  obtain ⟨q, m, e⟩ := List.any_eq_true.mp hm
  obtain ⟨C, cv, e1, e2, _⟩ := gr.mt q m
  rw [of_decide_eq_true e] at e2
  have ev := e2.val
  rw [← ev] at e2
  refine ⟨?_, e2⟩
  have r := e2.v.1
  rcases id e2 with ⟨C, q, e⟩ | ⟨n, q, e, e2, nn⟩
  · exact pe_glob (gl_of ok.sc hg) (by rw [ok.mg]; exact e) r (by simpa using hd)
  · exact pe_bltn (gl_of ok.sc hg) (by rw [ok.mg]; exact e) e2 r nn (by simpa using hd)
theorem anyIs_kit (gr : Γ.Gr G) {c : Str} {C : Addr} (eC : G.mg c = some (.ref C)) : ∀ {hs : List Str} {b : Bool}, anyIs Γ.M c hs = some b → PySem.W.kitAny G.K (.ref C) (hs.map (clsVal G)) = some b := by
  intro hs
  induction hs with
  | nil => intro b e; exact e
  | cons h r ih =>
    intro b e
    unfold anyIs at e
    cases q : lookM Γ.M c h with
    | none => rw [q] at e; cases e
    | some k =>
      rw [q] at e
      obtain ⟨C', cv, k1, k2, _, k4⟩ := gr.mt _ (lookM_mem q)
      dsimp only at k1 k2 k4
      rw [eC] at k1; cases k1
      refine kitAny_cons (b := k) (by rw [k2.val]; exact k4) (fun z => ?_) (fun z => ?_)
      · subst z; exact ih e
      · subst z; cases e; rfl
theorem exn_kit (gr : Γ.Gr G) {X : Cx} (ok : Γ.Ok G X) {pins : List (Addr × Obj)} {s : Shared} {x : V} {c : Str} (I : Inv X pins σ H s) (sf : Same F H) (r : Rp G.K G.mg F x (.exn c [])) (hc : c ∈ Γ.Ec) :
    ∃ a C oe, x = .ref a ∧ G.mg c = some (.ref C) ∧ PySem.W.KitX X.K (.ref a) (.ref C) (fun h => PySem.W.InstAt h a oe C none) ∧ PySem.W.InstAt s.heap a oe C none := by
  obtain ⟨C, e1, e2⟩ := gr.ec c hc
  cases r with
  | @exn a C' d _ fs _ h1 h2 h3 h4 =>
    rw [e1] at h2; cases h2
    cases h4
    rcases h3 with ⟨rfl, _⟩ | ⟨dx, rfl, nn, h3⟩
    · obtain ⟨⟨o, vs, q1, q2, q3⟩, _⟩ := I.hok a _ (sf _ _ h1)
      refine ⟨a, C, o, rfl, e1, ?_, ?_⟩
      · rw [ok.K]; exact PySem.W.handS_kitx_exc e2.hg e2.hk e2.hs e2.hd e2.ha e2.hn e2.ht e2.hm
      · obtain ⟨oc, od, oda, osl⟩ := o
        obtain ⟨z1, z2⟩ := q2
        dsimp only at z1 z2 q3
        subst z1 z2 q3
        exact ⟨q1, rfl, rfl, trivial⟩
    · exact absurd rfl nn
theorem isE_call (gr : Γ.Gr G) {X : Cx} (ok : Γ.Ok G X) {pins : List (Addr × Obj)} {s : Shared} {x : V} {v cv : Value} {h : Str} {dx d : D} {Q : VK} (I : Inv X pins σ H s) (rx : RelV x v) (sf : Same F H) (hx : Rp G.K G.mg F x dx) (hn : clsVal G h = cv) (hec : ∀ c b, lookM Γ.M c h = some b → c ∈ Γ.Ec)
    (e : fIsE Γ.M [h] dx = some d) (q : ∀ v F' H', Grow F H F' H' → Rp G.K G.mg F' v d → Q v H') : wpAny (model X.prog X.w) X.A (call (.builtin "isinstance") [v, cv]) (EP X pins σ Q) X.xe s := by
  unfold fIsE at e
  split at e
  · rename_i c
    obtain ⟨b, e1, rfl⟩ := map_some e
    have mem : c ∈ Γ.Ec := by
      unfold anyIs at e1
      cases z : lookM Γ.M c h with
      | none => rw [z] at e1; cases e1
      | some k => exact hec c k z
    obtain ⟨a, C, oe, rfl, eC, kx, ia⟩ := exn_kit gr ok I sf hx mem
    have k := anyIs_kit gr eC e1
    cases (show v = Value.ref a from rx)
    have k1 : PySem.W.kitOne X.K (.ref C) cv = some b := by
      rw [ok.K, ← hn]
      unfold anyIs at e1
      cases z : lookM Γ.M c h with
      | none => rw [z] at e1; cases e1
      | some y =>
        obtain ⟨C', cv', k1, k2, _, k4⟩ := gr.mt _ (lookM_mem z)
        dsimp only at k1 k2 k4
        rw [eC] at k1; cases k1
        rw [z] at e1
        rw [k2.val, k4]
        cases y <;> exact e1
    exact PySem.W.kia_one kx I.kIn ia k1 (fun z => nomatch z) fun tk => ep_tok I sf q
  · cases e
def exB (Γ : Gm) (h : Str) : Bool := Γ.M.all fun p => !decide (p.2.1 = h) || decide (p.1 ∈ Γ.Ec)
theorem exB_of {h : Str} (e : exB Γ h = true) : ∀ c b, lookM Γ.M c h = some b → c ∈ Γ.Ec := fun c b z => by
  have := List.all_eq_true.mp e _ (lookM_mem z)
  simpa using this
def isEB (Γ : Gm) (h : Str) (a : Expr) : Bool := decide (("isinstance" : Str) ∈ Γ.X) && glB Γ.sc "isinstance" && nst a && nmB Γ h && exB Γ h
theorem ce_isE (gr : Γ.Gr G) {M : List (Str × Str × Bool)} {h : Str} {a : Expr} {m : Sl → R D} {p p2 pos : Pos} (hM : Γ.M = M) (hb : isEB Γ h a = true) (ha : CE G Γ a m) : CE G Γ (.Call (.Name "isinstance" p) [a, .Name h p2] [] pos) (m1 (fIsE M [h]) m) := by
  subst hM
  obtain ⟨hb, h5⟩ := and2 hb
  obtain ⟨hb, h4⟩ := and2 hb
  obtain ⟨hb, hs⟩ := and2 hb
  obtain ⟨h1, h2⟩ := and2 hb
  refine fun X ok W tk => ⟨fun pins s σ H Q I hh => ?_⟩
  obtain ⟨B, F0, L, F, A, R, hh⟩ := hh
  obtain ⟨pn, nc⟩ := pe_nm gr ok (p := p2) h4
  have pa : PA X [a, .Name h p2] (tCons (tE G W m) (tCons (tC (clsV (clsVal G h))) tNil)) := pa_cons (ha X ok W tk) (pa_cons pn pa_nil rfl) (star_cons hs)
  refine wpAny_Call_Name_kw (ld_blt I (gl_of ok.sc h2) (by rw [ok.mg]; exact gr.bl _ (of_decide_eq_true h1)) boot_isinstance ?_ (by decide) (by decide))
  refine PyProof.Rows.callWith_builtin1 (thn (pa.run pos pins s σ H (fun vs H1 => ∃ x, vs = [x, clsV (clsVal G h)] ∧ ∃ F1 dx d, Same F1 H1 ∧ Rp G.K G.mg F1 x dx ∧ fIsE Γ.M [h] dx = some d ∧ ∀ v F' H', Grow F1 H1 F' H' → Rp G.K G.mg F' v d → Q v H') I ?_) fun us s1 hr => ?_) (star_cons hs) rfl
  · refine ⟨B, F0, L, F, A, R, (pG.bind hh).imp R fun dx F1 H1 s1 R1 g1 h1 v rv => ⟨v, rfl, F1, dx, ?_⟩⟩
    cases e : fIsE Γ.M [h] dx with
    | none => rw [e] at h1; exact h1.elim
    | some d => rw [e] at h1; exact ⟨d, R1.sf, rv, rfl, fun v F' H' g r => h1 F' H' g v r⟩
  · obtain ⟨vs, H1, I1, rvs, x', rfl, F1, dx, d, sf, hx', e, q⟩ := hr
    cases rvs with
    | cons r1 r2 => cases r2 with
      | cons r2 r3 =>
        cases r3
        have := nc.v.2.eq r2
        subst this
        exact isE_call gr ok I1 r1 sf hx' rfl (exB_of h5) e q
/-! ### a tuple of classes -/
def namesOf : List Expr → Option (List Str)
  | [] => some []
  | .Name x _ :: r => (namesOf r).map (x :: ·)
  | _ => none
def tKs (vs : List V) : TA := fun _ H Q => Q vs H
theorem pa_nms (gr : Γ.Gr G) {X : Cx} (ok : Γ.Ok G X) : ∀ {es : List Expr} {hs : List Str}, namesOf es = some hs → hs.all (nmB Γ) = true → PA X es (tKs (hs.map fun h => clsV (clsVal G h))) ∧ (∀ h ∈ hs, NmCls G h (clsVal G h)) ∧ es.length = hs.length
  | [], hs, e, _ => by cases e; exact ⟨PA.imp pa_nil fun _ _ _ q => q, fun _ m => (nomatch m), rfl⟩
  | .Name x p :: r, hs, e, hb => by
    unfold namesOf at e
    obtain ⟨hs', e', rfl⟩ := map_some e
    rw [List.all_cons] at hb
    obtain ⟨b1, b2⟩ := and2 hb
    obtain ⟨p1, n1⟩ := pe_nm gr ok (p := p) b1
    obtain ⟨p2, n2, l2⟩ := pa_nms gr ok e' b2
    exact ⟨PA.imp (pa_cons p1 p2 rfl) fun σ H Q q => q, fun h m => by rcases List.mem_cons.mp m with rfl | m; exact n1; exact n2 h m, congrArg (· + 1) l2⟩
  | .BoolOp .. :: _, _, e, _ => by cases e
  | .NamedExpr .. :: _, _, e, _ => by cases e
  | .BinOp .. :: _, _, e, _ => by cases e
  | .UnaryOp .. :: _, _, e, _ => by cases e
  | .Lambda .. :: _, _, e, _ => by cases e
  | .IfExp .. :: _, _, e, _ => by cases e
  | .Dict .. :: _, _, e, _ => by cases e
  | .Set .. :: _, _, e, _ => by cases e
  | .ListComp .. :: _, _, e, _ => by cases e
  | .SetComp .. :: _, _, e, _ => by cases e
  | .DictComp .. :: _, _, e, _ => by cases e
  | .GeneratorExp .. :: _, _, e, _ => by cases e
  | .Await .. :: _, _, e, _ => by cases e
  | .Yield .. :: _, _, e, _ => by cases e
  | .YieldFrom .. :: _, _, e, _ => by cases e
  | .Compare .. :: _, _, e, _ => by cases e
  | .Call .. :: _, _, e, _ => by cases e
  | .FormattedValue .. :: _, _, e, _ => by cases e
  | .JoinedStr .. :: _, _, e, _ => by cases e
  | .Constant .. :: _, _, e, _ => by cases e
  | .Attribute .. :: _, _, e, _ => by cases e
  | .Subscript .. :: _, _, e, _ => by cases e
  | .Starred .. :: _, _, e, _ => by cases e
  | .List .. :: _, _, e, _ => by cases e
  | .Tuple .. :: _, _, e, _ => by cases e
  | .Slice .. :: _, _, e, _ => by cases e
theorem nms_paired : ∀ {hs : List Str}, (∀ h ∈ hs, NmCls G h (clsVal G h)) → Paired ClsV (hs.map fun h => clsV (clsVal G h)) (hs.map (clsVal G))
  | [], _ => .nil
  | h :: r, n => .cons (n h List.mem_cons_self).v.2 (nms_paired fun x m => n x (List.mem_cons_of_mem _ m))
theorem anyIs_mem {M : List (Str × Str × Bool)} {c : Str} : ∀ {hs : List Str} {b : Bool}, anyIs M c hs = some b → hs ≠ [] → ∃ h ∈ hs, ∃ k, lookM M c h = some k
  | [], _, _, n => absurd rfl n
  | h :: r, b, e, _ => by
    unfold anyIs at e
    cases z : lookM M c h with
    | none => rw [z] at e; cases e
    | some k => exact ⟨h, List.mem_cons_self, k, z⟩
def isTB (Γ : Gm) (es : List Expr) (hs : List Str) (a : Expr) : Bool := decide (("isinstance" : Str) ∈ Γ.X) && glB Γ.sc "isinstance" && nst a && hs.all (nmB Γ) && hs.all (exB Γ) && decide (hs ≠ []) && decide (hs.length ≤ 100) && decide (namesOf es = some hs)
theorem ce_isT (gr : Γ.Gr G) {M : List (Str × Str × Bool)} {hs : List Str} {es : List Expr} {a : Expr} {m : Sl → R D} {kk : Nat} {p p2 pos : Pos} (hM : Γ.M = M) (hb : isTB Γ es hs a = true) (ha : CE G Γ a m) :
    CE G Γ (.Call (.Name "isinstance" p) [a, .Tuple es kk p2] [] pos) (m1 (fIsE M hs) m) := by
  subst hM
  obtain ⟨hb, h8⟩ := and2 hb
  obtain ⟨hb, h7⟩ := and2 hb
  obtain ⟨hb, h6⟩ := and2 hb
  obtain ⟨hb, h5⟩ := and2 hb
  obtain ⟨hb, h4⟩ := and2 hb
  obtain ⟨hb, hst⟩ := and2 hb
  obtain ⟨h1, h2⟩ := and2 hb
  refine fun X ok W tk => ⟨fun pins s σ H Q I hh => ?_⟩
  obtain ⟨B, F0, L, F, A, R, hh⟩ := hh
  obtain ⟨pn, nc, _⟩ := pa_nms gr ok (of_decide_eq_true h8) h4
  have pa : PA X [a, .Tuple es kk p2] (tCons (tE G W m) (tCons (tTup (tKs (hs.map fun h => clsV (clsVal G h)))) tNil)) := pa_cons (ha X ok W tk) (pa_cons (pe_tup pn) pa_nil rfl) (star_cons hst)
  refine wpAny_Call_Name_kw (ld_blt I (gl_of ok.sc h2) (by rw [ok.mg]; exact gr.bl _ (of_decide_eq_true h1)) boot_isinstance ?_ (by decide) (by decide))
  refine PyProof.Rows.callWith_builtin1 (thn (pa.run pos pins s σ H (fun vs H1 => ∃ x tp H0, vs = [x, .ref tp] ∧ H1 = upd H0 tp (.tup (hs.map fun h => clsV (clsVal G h))) ∧ H0 tp = none ∧ ∃ F1 dx d, Same F1 H0 ∧ Rp G.K G.mg F1 x dx ∧ fIsE Γ.M hs dx = some d ∧ ∀ v F' H', Grow F1 H0 F' H' → Rp G.K G.mg F' v d → Q v H') I ?_) fun us s1 hr => ?_) (star_cons hst) rfl
  · refine ⟨B, F0, L, F, A, R, (pG.bind hh).imp R fun dx F1 H1 s1 R1 g1 h1 v rv => ?_⟩
    refine ⟨by rw [List.length_map]; have := of_decide_eq_true h7; rw [sizeLine_eq]; omega, fun tp htp => ⟨v, tp, H1, rfl, rfl, htp, F1, dx, ?_⟩⟩
    cases e : fIsE Γ.M hs dx with
    | none => rw [e] at h1; exact h1.elim
    | some d => rw [e] at h1; exact ⟨d, R1.sf, rv, rfl, fun v F' H' g r => h1 F' H' g v r⟩
  · obtain ⟨vs, H1, I1, rvs, x', tp, H0, rfl, rfl, htp, F1, dx, d, sf, hx', e, q⟩ := hr
    cases rvs with
    | cons r1 r2 => cases r2 with
      | cons r2 r3 =>
        cases r3
        rename_i u1 u2
        cases (show u2 = Value.ref tp from r2)
        unfold fIsE at e
        split at e
        · rename_i c
          obtain ⟨b, e1, rfl⟩ := map_some e
          obtain ⟨h, mh, k, ek⟩ := anyIs_mem e1 (of_decide_eq_true h6)
          have g1 := Grow.new sf (.tup (hs.map fun h => clsV (clsVal G h))) htp
          obtain ⟨a', C, oe, rfl, eC, kx, ia⟩ := exn_kit gr ok I1 g1.le (hx'.mono g1.sF) (exB_of (List.all_eq_true.mp h5 h mh) c k ek)
          cases (show u1 = Value.ref a' from r1)
          obtain ⟨_, its, rv, o, q1, q2, n, q3⟩ := (show ObjOk X.prog X.w _ s1.heap tp (.tup (hs.map fun h => clsV (clsVal G h))) from I1.hok tp _ upd_same)
          have e3 := ClsV.all (nms_paired nc) rv
          subst e3
          obtain ⟨oc, od, dt, sl⟩ := o
          simp only at q2 q3
          subst q2 q3
          exact PySem.W.kia_tup kx I1.kIn ia q1 (by rw [ok.K]; exact anyIs_kit gr eC e1) (fun z => nomatch z) fun tk => ep_tok I1 g1.le fun v F' H' g r => q v F' H' (g1.trans g) r
        · cases e
end
end Eng

end
section
set_option Elab.async false
set_option linter.all false
set_option maxRecDepth 100000
set_option maxHeartbeats 4000000
/-! the engine, part 25: what the head must tell of classes of errors that are caught -/
namespace Eng
open PySem PySem.Spec PyProof.Rows L2
/-- is an error of class c one that h names -/
structure MtF (K : PySem.W.Frag) (c h : Str) (b : Bool) : Prop where
  ex : ∃ (C : Addr) (cv : Value), PySem.W.nsIn K mainGlobals c = some (some (.ref C)) ∧ ((∃ D, cv = .ref D ∧ PySem.W.nsIn K mainGlobals h = some (some cv)) ∨ ∃ n, cv = .type n ∧ PySem.W.nsIn K mainGlobals h = some none ∧ bootBuiltins h = some cv ∧ h ≠ "__name__") ∧
    (∀ D, cv = .ref D → PySem.W.exmOne K (.ref C) cv = some b) ∧ PySem.W.kitOne K (.ref C) cv = some b
theorem MtF.mt {G : Gd} {hp : Heap} {c h : Str} {b : Bool} (M : MtF G.K c h b) (X : G.K.In hp) (N : hp.Ns mainGlobals G.mg) :
    ∃ C cv, G.mg (c, h, b).1 = some (.ref C) ∧ NmCls G (c, h, b).2.1 cv ∧ (∀ D, cv = .ref D → PySem.W.exmOne G.K (.ref C) cv = some (c, h, b).2.2) ∧ PySem.W.kitOne G.K (.ref C) cv = some (c, h, b).2.2 := by
  obtain ⟨C, cv, h1, h2, h3, h4⟩ := M.ex
  refine ⟨C, cv, PySem.W.mg_of X N h1, ?_, h3, h4⟩
  rcases h2 with ⟨D, rfl, e⟩ | ⟨n, rfl, e, e2, e3⟩
  · exact .inl ⟨D, rfl, PySem.W.mg_of X N e⟩
  · exact .inr ⟨n, rfl, PySem.W.mg_none_of X N e, e2, e3⟩
structure EcF (K : PySem.W.Frag) (c : Str) : Prop where
  ex : ∃ C : Addr, PySem.W.nsIn K mainGlobals c = some (some (.ref C)) ∧ ExcC K C
theorem EcF.ec {G : Gd} {hp : Heap} {c : Str} (M : EcF G.K c) (X : G.K.In hp) (N : hp.Ns mainGlobals G.mg) : ∃ C, G.mg c = some (.ref C) ∧ ExcC G.K C := by
  obtain ⟨C, h1, h2⟩ := M.ex
  exact ⟨C, PySem.W.mg_of X N h1, h2⟩
end Eng

end
section
set_option Elab.async false
set_option linter.all false
set_option maxRecDepth 100000
set_option maxHeartbeats 4000000
/-! the engine, part 26: list(reversed(x)), tuple(reversed(x)) -/
namespace Eng
open PySem PySem.Spec PyProof.Rows L2
section
variable {prog : Program} {w : World} {A : Around} {E : Value → Shared → Prop} {s : Shared}
/-- list(it), it a list's iterator from behind -/
theorem list_of_rev {it l : Addr} {items : Array Value} {Q : Value → Shared → Prop} (quiet : A.handled = none) (ri : s.heap.IsRevIter it l ((items.size : Int) - 1)) (li : s.heap.IsList l items) (ne : l ≠ it) (few : items.size ≤ sizeLine)
    (q : ∀ h' tk acc c, (∀ b o, b ≠ it → s.heap.get? b = some o → h'.get? b = some o) → h'.get? s.heap.objs.size = some { cls := .type "list", dict := none, data := .seq acc c, slots := #[] } → ItemsOf (fun i v => items[items.size - 1 - i]? = some v) acc items.size →
      Q (.ref s.heap.objs.size) { s with heap := h', toks := tk }) : wpAny (model prog w) A (call (.type "list") [.ref it]) Q E s := by
  obtain ⟨oi, ei, _⟩ := id ri
  obtain ⟨ol, el, _⟩ := id li
  have nSi : s.heap.objs.size ≠ it := Nat.ne_of_gt (Heap.lt_size ei)
  have nSl : s.heap.objs.size ≠ l := Nat.ne_of_gt (Heap.lt_size el)
  have nfp : s.heap.objs.size ∉ [it, l] := by simp only [List.mem_cons, List.not_mem_nil, or_false, not_or]; exact ⟨nSi, nSl⟩
  refine callType_codes (Q₁ := fun obj s₁ => obj = .ref s.heap.objs.size ∧ s₁ = { s with heap := s.heap.push { cls := .type "list", data := .seq #[] } }) F.called_list (F.typeCall_list_1 _) F.entry_list_init
    (code_list_new _ ⟨rfl, rfl⟩) fun obj s₁ h₁ => ?_
  obtain ⟨rfl, rfl⟩ := h₁
  have e0 : (s.heap.push { cls := .type "list", data := .seq #[] }).get? s.heap.objs.size = some { cls := .type "list", data := .seq #[] } := Heap.get?_push_size _ rfl
  refine ⟨⟨_, e0, rfl⟩, F.args_list_init_2 _ _, ?_⟩
  show wpAny _ _ (do let old ← Builtin.List.listItems (.ref s.heap.objs.size); Builtin.List.listUpdate (.ref s.heap.objs.size) (fun _ => #[]); letGo old.toList.reverse; Builtin.List.listExtendWith (.ref s.heap.objs.size) (.ref it) .none) _ _ _
  refine wpAny_bind ?_
  unfold Builtin.List.listItems
  refine wpAny_bind (wpAny_seqItems e0 rfl (wpAny_pure ?_))
  show wpAny _ _ (updateSeq s.heap.objs.size (fun _ => #[]) >>= fun _ => letGo (#[] : Array Value).toList.reverse >>= fun _ => Builtin.List.listExtendWith (.ref s.heap.objs.size) (.ref it) .none) _ _ _
  refine wpAny_bind (wpAny_updateSeq e0 rfl ?_)
  have e2 := Heap.get?_update_self (Obj.mapSeq (fun _ => (#[] : Array Value))) e0 rfl
  have oth : ∀ b o, b ≠ s.heap.objs.size → s.heap.get? b = some o → ((s.heap.push { cls := .type "list", data := .seq #[] }).update s.heap.objs.size (Obj.mapSeq (fun _ => (#[] : Array Value)))).get? b = some o :=
    fun b o hb e => (Heap.get?_update_other _ _ (Ne.symm hb)).trans (Heap.get?_push_of_some _ e)
  refine wpAny_bind (wpAny_letGo ?_)
  have ri2 := ri.at fun o e => oth it o (Ne.symm nSi) e
  have li2 := li.at fun o e => oth l o (Ne.symm nSl) e
  have ty : ({ s with heap := (s.heap.push { cls := .type "list", data := .seq #[] }).update s.heap.objs.size (Obj.mapSeq (fun _ => (#[] : Array Value))) } : Shared).TypeIs (.ref it) "list_reverseiterator" := ri2.typeIs
  unfold Builtin.List.listExtendWith
  refine wpAny_bind (wpAny_typeOf ty ?_)
  have other : Builtin.List.listSameRef (.ref s.heap.objs.size) (.ref it) = false := by simp [Builtin.List.listSameRef, nSi]
  rw [if_neg (by rw [other]; decide)]
  refine wpAny_bind (wpAny_pyIter_revIter ri2 ?_)
  refine wpAny_bind (wpAny_holding ?_)
  unfold Builtin.List.listLengthHint
  refine wpAny_bind (wpAny_specialOf ty RT.nolen_lri ?_)
  show wpAny _ _ (specialOf (Value.ref it) (Str.ofString "__length_hint__") >>= _) _ _ _
  refine wpAny_bind (wpAny_specialOf ty RT.hint_lri ?_)
  generalize gid : ("list_reverseiterator.__length_hint__" : String) = id0
  wp_delta
  rw [show splitId id0 = some ("list_reverseiterator", "__length_hint__") from by subst gid; decide +kernel]
  subst gid
  refine wpAny_bind (wpAny_isInstance (b := true) ty (by rw [isSubtype_type]; kernel_rfl) ?_)
  refine wpAny_pure ?_
  rw [if_neg (by decide)]
  have z0 : ((items.size : Nat) : Int) - 1 - ((0 : Nat) : Int) = (items.size : Int) - 1 := by omega
  have W := (Walks.listRev (prog := prog) (w := w) (A := A.in1.in1) quiet it l ne items).toS
  refine wpAny_pure ⟨plainId_quiet F.plain_extend_loop _, codeAny_extend_loopS W few _ nfp _ items.size 0 _ _ _ rfl (Nat.zero_le _) ⟨Nat.zero_le _, by rw [z0]; exact ri2, li2⟩ e2 (ItemsOf.nil _) fun s' acc' c' hm eS hacc => ?_⟩
  rw [Moved.eq_with hm]
  refine ⟨rfl, q s'.heap s'.toks acc' c' (fun b o hb e => hm.heap b o (fun hmem => ?_) (oth b o (Nat.ne_of_lt (Heap.lt_size e)) e)) eS hacc⟩
  rcases List.mem_cons.mp hmem with e' | hmem
  · exact absurd (Heap.lt_size e) (by rw [e']; exact Nat.lt_irrefl _)
  · exact hb (List.mem_singleton.mp hmem)
end
/-- a thing of ours that stands in the heap becomes tracked -/
theorem track {Y : Cx} {pins : List (Addr × Obj)} {σ : L2.St} {H : Hp} {s : Shared} {a : Addr} {o : HO} (I : Inv Y pins σ H s) (f : FpOk Y pins H a) (n0 : Y.s_0.heap.objs.size ≤ a) (new : ObjOk Y.prog Y.w (upd H a o) s.heap a o) : Inv Y pins σ (upd H a o) s := by
  obtain ⟨na, nL, nF, nX, nC, nP⟩ := f
  refine ⟨I.ok, I.os, I.bare, ⟨I.base.keep, I.base.slot, fun b u e n hx => ?_, I.base.there, fun b xs e => ?_, fun b u v e => ?_, fun b ps e => ?_⟩, I.loc, I.cell, ?_, fun x c e => ?_, fun p hp => ?_, fun b u e => ?_, I.len⟩
  · rw [upd_ne (fun (z : b = a) => by rw [z] at e; exact absurd (Heap.lt_size e) (Nat.not_lt.mpr n0))]; exact I.base.free b u e n hx
  · have q := I.base.tups b xs e
    rw [upd_ne (ne_of_none q na)]; exact q
  · have q := I.base.frzs b u v e
    rw [upd_ne (ne_of_none q na)]; exact q
  · obtain ⟨m, q⟩ := I.base.tbls b ps e
    exact ⟨m, by rw [upd_ne (ne_of_none q na)]; exact q⟩
  · rw [upd_ne (Ne.symm nL)]; exact I.free
  · rw [upd_ne (nC x c e)]; exact I.freeC x c e
  · obtain ⟨e, n, r⟩ := I.pin p hp
    exact ⟨e, by rw [upd_ne (nP p hp)]; exact n, r⟩
  · by_cases hb : b = a
    · subst hb
      rw [upd_same] at e; cases e
      exact new
    · rw [upd_ne hb] at e
      exact (I.hok b u e).stay (fun _ _ _ q => q) (fun c q => by rw [upd_ne (ne_of_none q na)]; exact q) fun c xs q => by rw [upd_ne (ne_of_none q na)]; exact q
def tLstRev (K : PySem.W.Frag) (te : TE) : TE := fun σ H Q => te σ H fun v H1 => ∃ (a : Addr) (xs : List V), v = .ref a ∧ SqL K H1 a xs ∧ ∀ q, H1 q = none → Q (.ref q) (upd H1 q (.lst xs.reverse))
/-- a call of a type of one argument that is a call of reversed -/
def revB (Γ : Gm) (x : Str) (e : Expr) : Bool := decide (x ∈ Γ.X) && decide (("reversed" : Str) ∈ Γ.X) && glB Γ.sc x && glB Γ.sc "reversed" && nst e && Γ.cm
section
variable {Y : Cx} {e : Expr} {te : TE} {p p2 pos pos2 : Pos}
theorem pe_lstRev (cl : Y.calm = true) (g1 : Gl Y "list") (m1 : Y.mg "list" = none) (g2 : Gl Y "reversed") (m2 : Y.mg "reversed" = none) (he : PE Y e te) (hs : starEach [e] Y.env = (false, eval e Y.env) :: starEach [] Y.env)
    (hs2 : starEach [.Call (.Name "reversed" p2) [e] [] pos2] Y.env = (false, eval (.Call (.Name "reversed" p2) [e] [] pos2) Y.env) :: starEach [] Y.env) :
    PE Y (.Call (.Name "list" p) [.Call (.Name "reversed" p2) [e] [] pos2] [] pos) (tLstRev Y.K te) := by
  constructor
  intro pins s σ H Q I h
  refine Call_ (ld_blt I g1 m1 boot_list (PyProof.Rows.callWith_type1 (args_cons (Call_ (ld_blt I g2 m2 PyProof.Rows.boot_reversed (PyProof.Rows.callWith_type1 (args_cons (thn (he.run pins s σ H _ I h) fun u s1 ⟨v, H1, I1, r1, q1⟩ => args_nil ?_) hs) hs rfl))) hs2) hs2 rfl))
  obtain ⟨a, xs, rfl, hq, q⟩ := q1
  cases (show u = Value.ref a from r1)
  obtain ⟨its, rv, pl, hz⟩ := I1.list hq
  have li := pl.isList
  obtain ⟨ol, el, _⟩ := id li
  refine call_reversed_list li (args_nil ?_)
  have I2 : Inv Y pins σ H1 { s1 with heap := s1.heap.push (revObj a ((its.toArray.size : Int) - 1)) } := I1.kept (t' := s1.toks) fun b o e => Heap.get?_push_of_some _ e
  obtain ⟨f0, f1, f2, f3, f4, f5⟩ := I1.fpOk (H' := H1) (b := s1.heap.objs.size) (Nat.le_refl _) (I1.hok.fresh (Nat.le_refl _))
  have few : its.toArray.size ≤ sizeLine := by rw [List.size_toArray, ← rv.length]; exact hz
  refine list_of_rev (s := { s1 with heap := s1.heap.push (revObj a ((its.toArray.size : Int) - 1)) }) (I1.ok.hd cl) ⟨_, Heap.get?_push_size _ rfl, rfl, rfl⟩ (li.push _) (Nat.ne_of_lt (Heap.lt_size el)) few fun h' tk acc c hk eS hi => ?_
  have I3 : Inv Y pins σ H1 { s1 with heap := h', toks := tk } := I2.turned (t' := tk) (fun b o hb e => hk b o hb e) f0 f1 f3 f4 f5
  have lt : s1.heap.objs.size < (s1.heap.push (revObj a ((its.toArray.size : Int) - 1))).objs.size := by simp [Heap.push]
  have hn : H1 (s1.heap.push (revObj a ((its.toArray.size : Int) - 1))).objs.size = none := I2.hok.fresh (Nat.le_refl _)
  have ff : FpOk Y pins H1 (s1.heap.push (revObj a ((its.toArray.size : Int) - 1))).objs.size := I2.fpOk (Nat.le_refl _) hn
  refine ⟨.ref _, upd H1 _ (.lst xs.reverse), track I3 ff (Nat.le_trans I2.sz (Nat.le_refl _)) ⟨by rw [List.length_reverse]; exact hz, acc.toList, c, RT.vals_rev rv hi, ?_⟩, rfl, q _ hn⟩
  rw [Array.toArray_toList]
  exact eS
end
section
variable {G : Gd} {Γ : Gm} {W : WX} {B : Bd} {F0 F H : Hp} {L : Sl} {A : List Addr} {σ : L2.St}
theorem RpA.reverse {K : PySem.W.Frag} {mg : Str → Option Value} {F : Hp} : ∀ {vs : List V} {ds : List D}, RpA K mg F vs ds → RpA K mg F vs.reverse ds.reverse
  | _, _, .nil => .nil
  | _, _, .cons r t => by rw [List.reverse_cons, List.reverse_cons]; exact (RpA.reverse t).append (.cons r .nil)
def mLstRev (m : Sl → R D) : Sl → R O := fun L => (m L).bind fun d => match d with | .lst ds => .ok (.ml (ds.reverse.map .v)) | _ => .stuck
def mTupRev (m : Sl → R D) : Sl → R D := fun L => (m L).bind fun d => match d with | .lst ds => .ok (.tup ds.reverse) | _ => .stuck
theorem revB_of {x : Str} {e : Expr} (h : revB Γ x e = true) : x ∈ Γ.X ∧ ("reversed" : Str) ∈ Γ.X ∧ glB Γ.sc x = true ∧ glB Γ.sc "reversed" = true ∧ nst e = true ∧ Γ.cm = true := by
  unfold revB at h
  obtain ⟨h, h6⟩ := and2 h
  obtain ⟨h, h5⟩ := and2 h
  obtain ⟨h, h4⟩ := and2 h
  obtain ⟨h, h3⟩ := and2 h
  obtain ⟨h1, h2⟩ := and2 h
  exact ⟨of_decide_eq_true h1, of_decide_eq_true h2, h3, h4, h5, h6⟩
theorem co_lstRev (gr : Γ.Gr G) {e : Expr} {m : Sl → R D} {p p2 pos pos2 : Pos} (h : revB Γ "list" e = true) (he : CE G Γ e m) : CO G Γ (.Call (.Name "list" p) [.Call (.Name "reversed" p2) [e] [] pos2] [] pos) (mLstRev m) := by
  obtain ⟨h1, h2, h3, h4, h5, h6⟩ := revB_of h
  refine fun X ok W tk => PE.imp (pe_lstRev (ok.calm h6) (gl_of ok.sc h3) (by rw [ok.mg]; exact gr.bl _ h1) (gl_of ok.sc h4) (by rw [ok.mg]; exact gr.bl _ h2) (he X ok W tk) (star_cons h5) rfl) fun σ H Q h => ?_
  obtain ⟨B, F0, L, F, A, R, h⟩ := h
  refine ⟨B, F0, L, F, A, R, (pG.bind h).imp R fun d F1 H1 s1 R1 g1 h1 v rv => ?_⟩
  cases rv with
  | lst hs ra =>
    refine ⟨_, _, rfl, by rw [ok.K]; exact Same.seq R1.sf hs, fun q hq => ?_⟩
    exact new_ml R1.sf ra.reverse hq fun v C F' H' g ow nC fC => h1 F' H' g v C ow nC fun a m => ⟨(fC a m).1, g1.sH.free (fC a m).2⟩
  | _ => exact h1.elim
theorem ce_tupRev (gr : Γ.Gr G) {e : Expr} {m : Sl → R D} {p p2 pos pos2 : Pos} (h : revB Γ "tuple" e = true) (he : CE G Γ e m) : CE G Γ (.Call (.Name "tuple" p) [.Call (.Name "reversed" p2) [e] [] pos2] [] pos) (mTupRev m) := by
  obtain ⟨h1, h2, h3, h4, h5, h6⟩ := revB_of h
  refine fun X ok W tk => PE.imp (RT.pe_tupRev (ok.calm h6) (gl_of ok.sc h3) (by rw [ok.mg]; exact gr.bl _ h1) (gl_of ok.sc h4) (by rw [ok.mg]; exact gr.bl _ h2) (he X ok W tk) (star_cons h5) rfl) fun σ H Q h => ?_
  obtain ⟨B, F0, L, F, A, R, h⟩ := h
  refine ⟨B, F0, L, F, A, R, (pG.bind h).imp R fun d F1 H1 s1 R1 g1 h1 v rv => ?_⟩
  cases rv with
  | @lst a us ds hs ra =>
    refine ⟨_, _, rfl, by rw [ok.K]; exact Same.seq R1.sf hs, fun q hq => ?_⟩
    have g := Grow.new R1.sf (.tup us.reverse) hq
    exact h1 _ _ g _ (.tup upd_same (ra.reverse.mono g.sF))
  | _ => exact h1.elim
/-- a statement, then a slot frozen -/
def sThF (i : Nat) (k : Sl → RS) : Sl → RS := fun L => match k L with | .next L' => sFrz i .next L' | r => r
theorem cs_thF {i : Nat} {s : Stmt} {k : Sl → RS} (h : CS G Γ s k) : CS G Γ s (sThF i k) := by
  refine fun X ok W tk => PS.imp (h X ok W tk) fun D σ H h => ?_
  obtain ⟨B, F0, L, F, A, R, h⟩ := h
  refine ⟨B, F0, L, F, A, R, ?_⟩
  unfold sThF at h
  cases e : k L with
  | next L' =>
    rw [e] at h
    rintro σ' H' ⟨F', A', s', R'⟩
    have h : pS G W B F0 F (sFrz i .next L') D := h
    unfold sFrz at h
    split at h
    · rename_i o e2
      split at h
      · rename_i hok
        obtain ⟨F2, A2, s2, R2⟩ := R'.frzS e2 (okSet_of hok).2
        exact h _ _ ⟨F2, A2, s'.trans s2, R2⟩
      · exact h.elim
    · exact h.elim
  | _ => rw [e] at h; exact h
end
end Eng

end
section
set_option Elab.async false
set_option linter.all false
set_option maxRecDepth 100000
set_option maxHeartbeats 4000000
/-! the engine, part 27: places inside a slot's thing (x.f, x[c], d[k] and deeper), read and changed where they stand -/
namespace Eng
open PySem PySem.Spec PyProof.Rows L2
/-- a step from a thing to one of its parts -/
inductive Stp
  | fld (cs : List Str) (f : Str)
  | at (d : D)
  | un
def lookA {κ : Type} [DecidableEq κ] : List (κ × O) → κ → Option O
  | [], _ => none
  | (x, o) :: r, k => if x = k then some o else lookA r k
def setA {κ : Type} [DecidableEq κ] : List (κ × O) → κ → O → List (κ × O)
  | [], _, _ => []
  | (x, o) :: r, k, q => if x = k then (x, q) :: r else (x, o) :: setA r k q
def O.sub : O → Stp → Option O
  | .ml os, .at (.int i) => atI os i
  | .mt os, .at (.int i) => atI os i
  | .mk os, .at d => (keyD d).bind fun k => lookA os k
  | .mq os, .at (.tup ks) => (keysD ks).bind fun k => lookA os k
  | .mi _ c os, .fld cs f => if c ∈ cs then lookA os f else none
  | .pin o, .un => some o
  | _, _ => none
def O.sput : O → Stp → O → O
  | .ml os, .at (.int i), q => match ixN os.length i with | some j => .ml (os.set j q) | none => .ml os
  | .mt os, .at (.int i), q => match ixN os.length i with | some j => .mt (os.set j q) | none => .mt os
  | .mk os, .at d, q => match keyD d with | some k => .mk (setA os k q) | none => .mk os
  | .mq os, .at (.tup ks), q => match keysD ks with | some k => .mq (setA os k q) | none => .mq os
  | .mi p c os, .fld _ f, q => .mi p c (setA os f q)
  | .pin _, .un, q => .pin q
  | o, _, _ => o
def getP : O → List Stp → Option O
  | o, [] => some o
  | o, s :: p => (o.sub s).bind fun o1 => getP o1 p
def putP : O → List Stp → O → O
  | _, [], q => q
  | o, s :: p, q => match o.sub s with | some o1 => o.sput s (putP o1 p q) | none => o
section
variable {tg : Tg} {K : PySem.W.Frag} {mg : Str → Option Value} {F H : Hp}
theorem OwK.look {k : Key} {o : O} : ∀ {vs : List (Key × V)} {os : List (Key × O)} {A : List Addr}, OwK tg K mg F H vs os A → lookA os k = some o →
    ∃ v A1 Ac A2, valV vs k = some v ∧ Ow tg K mg F H v o Ac ∧ A = A1 ++ Ac ++ A2 ∧
      ∀ (F' H' : Hp) (o' : O) (Ac' : List Addr), Same F F' → (∀ a, a ∈ A1 ∨ a ∈ A2 → H' a = H a) → Ow tg K mg F' H' v o' Ac' → OwK tg K mg F' H' vs (setA os k o') (A1 ++ Ac' ++ A2)
  | _, _, _, .nil, e => by cases e
  | _, _, _, .cons (x := x) (v := v) (A := A0) (B := B0) r t, e => by
    unfold lookA at e
    by_cases c : x = k
    · rw [if_pos c] at e; cases e
      refine ⟨v, [], A0, B0, valV_pos c, r, by simp, fun F' H' o' Ac' s q r' => ?_⟩
      unfold setA
      rw [if_pos c]
      exact .cons r' (OwK.mono s (fun a m => q a (.inr m)) t)
    · rw [if_neg c] at e
      obtain ⟨w, A1, Ac, A2, h1, h2, h3, h4⟩ := OwK.look t e
      refine ⟨w, A0 ++ A1, Ac, A2, by rw [valV_neg c]; exact h1, h2, by rw [h3]; simp, fun F' H' o' Ac' s q r' => ?_⟩
      unfold setA
      rw [if_neg c, List.append_assoc, List.append_assoc, ← List.append_assoc A1]
      exact .cons (Ow.mono s (fun a m => q a (.inl (List.mem_append_left _ m))) r) (h4 F' H' o' Ac' s (fun a m => q a (m.imp (List.mem_append_right _) id)) r')
theorem OwT.look {k : List Key} {o : O} : ∀ {vs : List (List Key × V)} {os : List (List Key × O)} {A : List Addr}, OwT tg K mg F H vs os A → lookA os k = some o →
    ∃ v A1 Ac A2, valV vs k = some v ∧ Ow tg K mg F H v o Ac ∧ A = A1 ++ Ac ++ A2 ∧
      ∀ (F' H' : Hp) (o' : O) (Ac' : List Addr), Same F F' → (∀ a, a ∈ A1 ∨ a ∈ A2 → H' a = H a) → Ow tg K mg F' H' v o' Ac' → OwT tg K mg F' H' vs (setA os k o') (A1 ++ Ac' ++ A2)
  | _, _, _, .nil, e => by cases e
  | _, _, _, .cons (x := x) (v := v) (A := A0) (B := B0) r t, e => by
    unfold lookA at e
    by_cases c : x = k
    · rw [if_pos c] at e; cases e
      refine ⟨v, [], A0, B0, valV_pos c, r, by simp, fun F' H' o' Ac' s q r' => ?_⟩
      unfold setA
      rw [if_pos c]
      exact .cons r' (OwT.mono s (fun a m => q a (.inr m)) t)
    · rw [if_neg c] at e
      obtain ⟨w, A1, Ac, A2, h1, h2, h3, h4⟩ := OwT.look t e
      refine ⟨w, A0 ++ A1, Ac, A2, by rw [valV_neg c]; exact h1, h2, by rw [h3]; simp, fun F' H' o' Ac' s q r' => ?_⟩
      unfold setA
      rw [if_neg c, List.append_assoc, List.append_assoc, ← List.append_assoc A1]
      exact .cons (Ow.mono s (fun a m => q a (.inl (List.mem_append_left _ m))) r) (h4 F' H' o' Ac' s (fun a m => q a (m.imp (List.mem_append_right _) id)) r')
theorem OwF.look {k : Str} {o : O} : ∀ {vs : List (Str × V)} {os : List (Str × O)} {A : List Addr}, OwF tg K mg F H vs os A → lookA os k = some o →
    ∃ v A1 Ac A2, vs.lookup k = some v ∧ Ow tg K mg F H v o Ac ∧ A = A1 ++ Ac ++ A2 ∧
      ∀ (F' H' : Hp) (o' : O) (Ac' : List Addr), Same F F' → (∀ a, a ∈ A1 ∨ a ∈ A2 → H' a = H a) → Ow tg K mg F' H' v o' Ac' → OwF tg K mg F' H' vs (setA os k o') (A1 ++ Ac' ++ A2)
  | _, _, _, .nil, e => by cases e
  | _, _, _, .cons (x := x) (v := v) (vs := vs) (A := A0) (B := B0) r t, e => by
    unfold lookA at e
    by_cases c : x = k
    · rw [if_pos c] at e; cases e
      refine ⟨v, [], A0, B0, by rw [List.lookup_cons, c]; simp, r, by simp, fun F' H' o' Ac' s q r' => ?_⟩
      unfold setA
      rw [if_pos c]
      exact .cons r' (OwF.mono s (fun a m => q a (.inr m)) t)
    · rw [if_neg c] at e
      obtain ⟨w, A1, Ac, A2, h1, h2, h3, h4⟩ := OwF.look t e
      refine ⟨w, A0 ++ A1, Ac, A2, by rw [List.lookup_cons, show (k == x) = false from by simpa using fun z => c z.symm]; exact h1, h2, by rw [h3]; simp, fun F' H' o' Ac' s q r' => ?_⟩
      unfold setA
      rw [if_neg c, List.append_assoc, List.append_assoc, ← List.append_assoc A1]
      exact .cons (Ow.mono s (fun a m => q a (.inl (List.mem_append_left _ m))) r) (h4 F' H' o' Ac' s (fun a m => q a (m.imp (List.mem_append_right _) id)) r')
theorem atI_some {α : Type} {xs : List α} {i : Int} {v : α} (h : atI xs i = some v) : ∃ j, ixN xs.length i = some j ∧ xs[j]? = some v := by
  unfold atI at h
  obtain ⟨j, e1, e2⟩ := bind_some h
  exact ⟨j, e1, e2⟩
end
section
variable {G : Gd} {F H : Hp}
/-- v1 stands at p in v0, as o1 does in o0; what may be put there -/
def Zp (G : Gd) (F H : Hp) (v0 : V) (o0 : O) (A0 : List Addr) (p : List Stp) (v1 : V) (o1 : O) : Prop :=
  getP o0 p = some o1 ∧ ∃ A1 Ac A2, Ow G.tg G.K G.mg F H v1 o1 Ac ∧ A0 = A1 ++ Ac ++ A2 ∧
    ∀ (F' H' : Hp) (o' : O) (Ac' : List Addr), Same F F' → (∀ a, a ∈ A1 ∨ a ∈ A2 → H' a = H a) → Ow G.tg G.K G.mg F' H' v1 o' Ac' → Ow G.tg G.K G.mg F' H' v0 (putP o0 p o') (A1 ++ Ac' ++ A2)
theorem Zp.nil {v0 : V} {o0 : O} {A0 : List Addr} (r : Ow G.tg G.K G.mg F H v0 o0 A0) : Zp G F H v0 o0 A0 [] v0 o0 :=
  ⟨rfl, [], A0, [], r, by simp, fun F' H' o' Ac' _ _ r' => by simpa [putP] using r'⟩
theorem getP_snoc : ∀ {p : List Stp} {o0 o1 o2 : O} {s : Stp}, getP o0 p = some o1 → o1.sub s = some o2 → getP o0 (p ++ [s]) = some o2
  | [], o0, o1, o2, s, h, e => by
    cases h
    show (o0.sub s).bind (fun o1 => getP o1 []) = _
    rw [e]; rfl
  | t :: p, o0, o1, o2, s, h, e => by
    obtain ⟨q, e1, e2⟩ := bind_some (show (o0.sub t).bind (fun o1 => getP o1 p) = some o1 from h)
    show (o0.sub t).bind (fun o1 => getP o1 (p ++ [s])) = _
    rw [e1]
    exact getP_snoc e2 e
theorem putP_snoc : ∀ {p : List Stp} {o0 o1 o2 q : O} {s : Stp}, getP o0 p = some o1 → o1.sub s = some o2 → putP o0 (p ++ [s]) q = putP o0 p (o1.sput s q)
  | [], o0, o1, o2, q, s, h, e => by
    cases h
    show (match o0.sub s with | some o1 => o0.sput s (putP o1 [] q) | none => o0) = _
    rw [e]; rfl
  | t :: p, o0, o1, o2, q, s, h, e => by
    obtain ⟨w, e1, e2⟩ := bind_some (show (o0.sub t).bind (fun o1 => getP o1 p) = some o1 from h)
    show (match o0.sub t with | some o1 => o0.sput t (putP o1 (p ++ [s]) q) | none => o0) = (match o0.sub t with | some o1 => o0.sput t (putP o1 p (O.sput _ s q)) | none => o0)
    rw [e1]
    dsimp only
    rw [putP_snoc e2 e]
/-- one step more -/
theorem Zp.step {v0 v1 v2 : V} {o0 o1 o2 : O} {A0 : List Addr} {p : List Stp} {s : Stp} (z : Zp G F H v0 o0 A0 p v1 o1) (e : o1.sub s = some o2)
    (h : ∀ A, Ow G.tg G.K G.mg F H v1 o1 A → ∃ A1 Ac A2, Ow G.tg G.K G.mg F H v2 o2 Ac ∧ A = A1 ++ Ac ++ A2 ∧
      ∀ (F' H' : Hp) (o' : O) (Ac' : List Addr), Same F F' → (∀ a, a ∈ A1 ∨ a ∈ A2 → H' a = H a) → Ow G.tg G.K G.mg F' H' v2 o' Ac' → Ow G.tg G.K G.mg F' H' v1 (o1.sput s o') (A1 ++ Ac' ++ A2)) : Zp G F H v0 o0 A0 (p ++ [s]) v2 o2 := by
  obtain ⟨g, A1, Ac, A2, r, ea, up⟩ := z
  obtain ⟨B1, Bc, B2, r2, eb, up2⟩ := h _ r
  refine ⟨getP_snoc g e, A1 ++ B1, Bc, B2 ++ A2, r2, by rw [ea, eb]; simp, fun F' H' o' Ac' sm ag r' => ?_⟩
  rw [putP_snoc g e]
  have := up F' H' (o1.sput s o') _ sm (fun a m => ag a (m.imp (List.mem_append_left _) (List.mem_append_right _))) (up2 F' H' o' Ac' sm (fun a m => ag a (m.imp (List.mem_append_right _) (List.mem_append_left _))) r')
  simpa using this
theorem Zp.later {v0 v1 : V} {o0 o1 : O} {A0 : List Addr} {p : List Stp} {F1 H1 : Hp} (z : Zp G F H v0 o0 A0 p v1 o1) (s : Same F F1) (k : ∀ a ∈ A0, H1 a = H a) : Zp G F1 H1 v0 o0 A0 p v1 o1 := by
  obtain ⟨g, A1, Ac, A2, r, ea, up⟩ := z
  refine ⟨g, A1, Ac, A2, Ow.mono s (fun a m => k a (by rw [ea]; simp [m])) r, ea, fun F' H' o' Ac' sm ag r' => up F' H' o' Ac' (s.trans sm) (fun a m => ?_) r'⟩
  rw [ag a m]
  exact k a (by rw [ea]; rcases m with m | m <;> simp [m])
/-- .. in the slots -/
def PlS (G : Gd) (L : Sl) (A : List Addr) (σ : L2.St) (F H : Hp) (i : Nat) (p : List Stp) (v1 : V) (o1 : O) : Prop :=
  ∃ v0 o0 S1 Ai S2, σ[i]? = some (some v0) ∧ L[i]? = some (some o0) ∧ A = S1 ++ Ai ++ S2 ∧ Zp G F H v0 o0 Ai p v1 o1 ∧
    ∀ (F' H' : Hp) (v' : V) (o' : O) (Ai' : List Addr), Same F F' → (∀ a, a ∈ S1 ∨ a ∈ S2 → H' a = H a) → Ow G.tg G.K G.mg F' H' v' o' Ai' → OwS G.tg G.K G.mg F' H' (σ.set i (some v')) (L.set i (some o')) (S1 ++ Ai' ++ S2)
def stPut (L : Sl) (i : Nat) (p : List Stp) (q : O) : Sl := match L[i]? with | some (some o0) => L.set i (some (putP o0 p q)) | _ => L
variable {B : Bd} {F0 : Hp} {L : Sl} {A : List Addr} {σ : L2.St}
theorem PlS.later {i : Nat} {p : List Stp} {v1 : V} {o1 : O} {F1 H1 : Hp} (z : PlS G L A σ F H i p v1 o1) (s : Same F F1) (k : ∀ a ∈ A, H1 a = H a) : PlS G L A σ F1 H1 i p v1 o1 := by
  obtain ⟨v0, o0, S1, Ai, S2, h1, h2, h3, h4, h5⟩ := z
  refine ⟨v0, o0, S1, Ai, S2, h1, h2, h3, h4.later s fun a m => k a (by rw [h3]; simp [m]), fun F' H' v' o' Ai' sm ag r => h5 F' H' v' o' Ai' (s.trans sm) (fun a m => ?_) r⟩
  rw [ag a m]
  exact k a (by rw [h3]; rcases m with m | m <;> simp [m])
theorem PlS.ow {i : Nat} {p : List Stp} {v1 : V} {o1 : O} (z : PlS G L A σ F H i p v1 o1) : ∃ Ac, Ow G.tg G.K G.mg F H v1 o1 Ac ∧ ∀ a ∈ Ac, a ∈ A := by
  obtain ⟨v0, o0, S1, Ai, S2, h1, h2, h3, ⟨g, A1, Ac, A2, r, ea, up⟩, h5⟩ := z
  exact ⟨Ac, r, fun a m => by rw [h3, ea]; simp [m]⟩
theorem pin_put : ∀ {p : List Stp} {o0 o1 q : O}, getP o0 p = some o1 → pinO q = pinO o1 → pinO (putP o0 p q) = pinO o0
  | [], o0, o1, q, h, e => by cases h; exact e
  | s :: p, o0, o1, q, h, e => by
    obtain ⟨w, e1, e2⟩ := bind_some (show (o0.sub s).bind (fun o1 => getP o1 p) = some o1 from h)
    show pinO (match o0.sub s with | some o1 => o0.sput s (putP o1 p q) | none => o0) = _
    rw [e1]
    dsimp only
    unfold O.sput
    split <;> first | rfl | (split <;> rfl)
/-- the state behind a place's change -/
theorem PlS.mut {i : Nat} {p : List Stp} {v1 : V} {o1 : O} (z : PlS G L A σ F H i p v1 o1) (R : Rl G B F0 L F A σ H) : ∃ Ac, Ow G.tg G.K G.mg F H v1 o1 Ac ∧ (∀ a ∈ Ac, a ∈ A) ∧ Ac.Nodup ∧
    ∀ (H' : Hp) (o' : O) (Ac' : List Addr), pinO o' = pinO o1 → (∀ x, x ∉ Ac → (∃ u, H x = some u) → H' x = H x) → Ow G.tg G.K G.mg F H' v1 o' Ac' → Ac'.Nodup → (∀ a ∈ Ac', a ∈ Ac ∨ (F a = none ∧ B.h a = none ∧ a ∉ A)) → ∃ A', Rl G B F0 (stPut L i p o') F A' σ H' := by
  obtain ⟨v0, o0, S1, Ai, S2, h1, h2, h3, ⟨g, A1, Ac, A2, r, ea, up⟩, h5⟩ := z
  have e3 : A = (S1 ++ A1) ++ Ac ++ (A2 ++ S2) := by rw [h3, ea]; simp
  have nd := R.nd
  rw [e3] at nd
  have n1 := List.nodup_append.mp nd
  have n2 := List.nodup_append.mp n1.1
  have hi : ∀ a ∈ Ac, a ∈ A := fun a m => by rw [e3]; simp [m]
  have oth : ∀ a, a ∈ S1 ++ A1 ∨ a ∈ A2 ++ S2 → a ∈ A ∧ a ∉ Ac := fun a m => by
    refine ⟨by rw [e3]; rcases m with m | m
               · exact List.mem_append_left _ (List.mem_append_left _ m)
               · exact List.mem_append_right _ m, fun ha => ?_⟩
    rcases m with m | m
    · exact n2.2.2 a m a ha rfl
    · exact n1.2.2 a (List.mem_append_right _ ha) a m rfl
  refine ⟨Ac, r, hi, n2.2.1, fun H' o' Ac' hpo hk ow nd' hA => ?_⟩
  have keep : ∀ a, a ∈ S1 ++ A1 ∨ a ∈ A2 ++ S2 → H' a = H a := fun a m => hk a (oth a m).2 (R.os.tracked a (oth a m).1)
  have q0 := up F H' o' Ac' (.refl _) (fun a m => keep a (m.imp (List.mem_append_right _) (List.mem_append_left _))) ow
  have q := h5 F H' v0 _ _ (.refl _) (fun a m => keep a (m.imp (List.mem_append_left _) (List.mem_append_right _))) q0
  rw [get_set h1] at q
  have eL : stPut L i p o' = L.set i (some (putP o0 p o')) := by unfold stPut; rw [h2]
  rw [eL]
  have eA : S1 ++ (A1 ++ Ac' ++ A2) ++ S2 = (S1 ++ A1) ++ Ac' ++ (A2 ++ S2) := by simp
  rw [eA] at q
  have notA : ∀ a, F a ≠ none → a ∉ Ac := fun a hf m => hf (R.fa a (hi a m)).1
  have notB : ∀ a, B.h a ≠ none → a ∉ Ac := fun a hf m => hf (R.fa a (hi a m)).2
  have sep : ∀ a ∈ Ac', ∀ b, b ∈ S1 ++ A1 ∨ b ∈ A2 ++ S2 → a ≠ b := fun a ha b hb z => by
    subst z
    rcases hA a ha with h | h
    · exact (oth a hb).2 h
    · exact h.2.2 (oth a hb).1
  refine ⟨_, q, ?_, fun a u e => ?_, R.f0, fun a u e => ?_, R.fb, fun a m => ?_, pn_mut h2 (pin_put g hpo) R.pn⟩
  · refine List.nodup_append.mpr ⟨List.nodup_append.mpr ⟨n2.1, nd', fun a ha b hb z => sep b hb a (.inl ha) z.symm⟩, n1.2.1, fun a ha b hb z => ?_⟩
    rcases List.mem_append.mp ha with ha | ha
    · exact n1.2.2 a (List.mem_append_left _ ha) b hb z
    · exact sep a ha b (.inr hb) z
  · have hu := R.sf a u e
    rw [hk a (notA a (by rw [e]; intro z; cases z)) ⟨u, hu⟩]; exact hu
  · have hu := R.sb a u e
    rw [hk a (notB a (by rw [e]; intro z; cases z)) ⟨u, hu⟩]; exact hu
  · rcases List.mem_append.mp m with m | m
    · rcases List.mem_append.mp m with m | m
      · exact R.fa a (oth a (.inl m)).1
      · rcases hA a m with h | h
        · exact R.fa a (hi a h)
        · exact ⟨h.1, h.2.1⟩
    · exact R.fa a (oth a (.inr m)).1
end
end Eng

end
section
set_option Elab.async false
set_option linter.all false
set_option maxRecDepth 100000
set_option maxHeartbeats 4000000
/-! the engine, part 28: expressions that name a place; statements that change it -/
namespace Eng
open PySem PySem.Spec PyProof.Rows L2
structure Pq where
  i : Nat
  p : List Stp
  o : O
def tP (G : Gd) (W : WX) (m : Sl → R Pq) : TE := fun σ H Q => ∃ B F0 L F A, Rl G B F0 L F A σ H ∧ pG G W σ F H (m L) fun q F' H' => ∀ v, PlS G L A σ F' H' q.i q.p v q.o → Q v H'
def CQ (G : Gd) (Γ : Gm) (e : Expr) (m : Sl → R Pq) : Prop := ∀ X, Γ.Ok G X → ∀ W, Takes X W → PE X e (tP G W m)
section
variable {G : Gd} {Γ : Gm} {W : WX} {B : Bd} {F0 F H : Hp} {L : Sl} {A : List Addr} {σ : L2.St}
theorem Rl.keep (R : Rl G B F0 L F A σ H) {F1 H1 : Hp} (g : Grow F H F1 H1) : ∀ a ∈ A, H1 a = H a := fun a m => by
  obtain ⟨u, e⟩ := R.os.tracked a m
  rw [e, g.sH _ _ e]
def mVarP (i : Nat) : Sl → R Pq := fun L => match L[i]? with
  | some (some (.pin o)) => .ok ⟨i, [.un], o⟩
  | some (some o) => .ok ⟨i, [], o⟩
  | _ => .stuck
theorem cp_v {i : Nat} {x : Str} {pos : Pos} (hb : varB Γ i x = true) : CQ G Γ (.Name x pos) (mVarP i) := by
  unfold varB at hb
  obtain ⟨h1, h4⟩ := and2 hb
  obtain ⟨h1, h3⟩ := and2 h1
  obtain ⟨h1, h2⟩ := and2 h1
  refine fun X ok W tk => PE.imp (pe_var (i := i) (by rw [ok.N]; exact of_decide_eq_true h1) (by rw [ok.sc]; exact vis_of h2) (by simpa using h3) (by simpa using h4)) fun σ H Q h => ?_
  obtain ⟨B, F0, L, F, A, R, h⟩ := h
  unfold mVarP at h
  split at h
  · rename_i o e
    obtain ⟨v, S1, Ai, S2, q1, q2, q3, q4⟩ := R.os.get e
    refine ⟨v, q1, h F H (.refl R.sf) v ⟨v, _, S1, Ai, S2, q1, e, q3, ?_, q4⟩⟩
    have z := Zp.nil (G := G) q2
    cases q2 with
    | pin r =>
      refine z.step (s := .un) (o2 := o) rfl fun A r' => ?_
      cases r' with
      | pin r' => exact ⟨[], _, [], r', by simp, fun F' H' o' Ac' _ _ r'' => by simpa [O.sput] using Ow.pin r''⟩
  · rename_i o _ e
    obtain ⟨v, S1, Ai, S2, q1, q2, q3, q4⟩ := R.os.get e
    exact ⟨v, q1, h F H (.refl R.sf) v ⟨v, _, S1, Ai, S2, q1, e, q3, Zp.nil q2, q4⟩⟩
  · exact h.elim
/-- e.f -/
def mFldP (cs : List Str) (f : Str) (m : Sl → R Pq) : Sl → R Pq := fun L => (m L).bind fun q => match q.o.sub (.fld cs f) with | some o => .ok ⟨q.i, q.p ++ [.fld cs f], o⟩ | none => .stuck
theorem cp_fld (gr : Γ.Gr G) {e : Expr} {f : Str} {cs : List Str} {m : Sl → R Pq} {pos : Pos} (hc : (attrB e && fldB Γ cs f) = true) (he : CQ G Γ e m) : CQ G Γ (.Attribute e f pos) (mFldP cs f m) := by
  refine fun X ok W tk => PE.imp (pe_fld (he X ok W tk) (attr_base (and2 hc).1 _ _ _)) fun σ H Q h => ?_
  obtain ⟨B, F0, L, F, A, R, h⟩ := h
  refine ⟨B, F0, L, F, A, R, (pG.bind h).imp R fun q F1 H1 s1 R1 g1 h1 v z => ?_⟩
  obtain ⟨i, p, o⟩ := q
  dsimp only at h1 z
  cases e2 : o.sub (.fld cs f) with
  | none => rw [e2] at h1; exact h1.elim
  | some o2 =>
    rw [e2] at h1
    have e2' := e2
    obtain ⟨v0, o0, S1, Ai, S2, k1, k2, k3, k4, k5⟩ := z
    have ow : ∃ Ac, Ow G.tg G.K G.mg F1 H1 v o Ac := by obtain ⟨_, _, Ac, _, r, _⟩ := k4; exact ⟨Ac, r⟩
    obtain ⟨Ac, r⟩ := ow
    cases r with
    | @mi a C dx p' c fs os A1 hH hm rf =>
      unfold O.sub at e2
      dsimp only at e2
      split at e2
      · rename_i hcs
        obtain ⟨C', d1, d2, d3⟩ := fldB_of gr (and2 hc).2 hcs
        rw [hm] at d1; cases d1
        obtain ⟨w, _, _, _, u1, _⟩ := rf.look e2
        refine ⟨_, _, _, _, w, rfl, hH, by rw [ok.K]; exact d2, by rw [ok.K]; exact d3, u1, h1 F1 H1 (.refl R1.sf) w ⟨v0, o0, S1, Ai, S2, k1, k2, k3, k4.step (s := .fld cs f) e2' fun A r' => ?_, k5⟩⟩
        cases r' with
        | @mi _ _ _ _ _ _ _ A1' hH' hm' rf' =>
          obtain ⟨w', B1, Bc, B2, t1, t2, t3, t4⟩ := rf'.look e2
          rw [hH] at hH'; cases hH'
          rw [u1] at t1; cases t1
          refine ⟨a :: B1, Bc, B2, t2, by rw [t3]; simp, fun F' H' o' Ac' sm ag r'' => ?_⟩
          have := t4 F' H' o' Ac' sm (fun x m => ag x (m.imp (List.mem_cons_of_mem _) id)) r''
          show Ow G.tg G.K G.mg F' H' _ (.mi p' c (setA os f o')) _
          simpa using Ow.mi (p := p') (by rw [ag a (.inl List.mem_cons_self)]; exact hH) hm this
      · cases e2
    | _ => exact absurd e2 (by unfold O.sub; intro z; cases z)
/-- e[k] -/
def rIxO : V → V → Hp → VK → Prop := fun x y H Q => ∃ w, ((∃ a xs i, x = .ref a ∧ y = .int i ∧ (H a = some (.lst xs) ∨ H a = some (.tup xs)) ∧ atI xs i = some w) ∨ ∃ a, x = .ref a ∧ DGet H a y (some w)) ∧ Q w H
theorem x_ixO {X : Cx} (ok : Γ.Ok G X) : IxR X rIxO := by
  intro value slice pins s σ H x y v u Q I rx ry h hs
  obtain ⟨w, ⟨a, xs, i, rfl, rfl, hH, e⟩ | ⟨a, rfl, g⟩, q⟩ := h
  · rcases hH with hH | hH
    · exact ix_list value slice pins s σ H _ _ v u Q I rx ry ⟨_, _, _, w, rfl, rfl, .inl (.inl hH), e, q⟩ hs
    · exact ix_tup value slice pins s σ H _ _ v u Q I rx ry ⟨_, _, _, w, rfl, rfl, .inl (.inl hH), e, q⟩ hs
  · cases rx
    exact tail_dict (by have := ok.units; omega) I g ry q hs
def mIxP (m : Sl → R Pq) (k : Sl → R D) : Sl → R Pq := fun L => (m L).bind fun q => (k L).bind fun d => match q.o.sub (.at d) with | some o => .ok ⟨q.i, q.p ++ [.at d], o⟩ | none => .stuck
theorem cp_ix {e b : Expr} {m : Sl → R Pq} {k : Sl → R D} {pos : Pos} (hp : plainIx b = true) (he : CQ G Γ e m) (hk : CE G Γ b k) : CQ G Γ (.Subscript e b pos) (mIxP m k) := by
  refine fun X ok W tk => PE.imp (pe_ix (x_ixO ok) (he X ok W tk) (hk X ok W tk) (plainIx_of hp)) fun σ H Q h => ?_
  obtain ⟨B, F0, L, F, A, R, h⟩ := h
  refine ⟨B, F0, L, F, A, R, (pG.bind h).imp R fun q F1 H1 s1 R1 g1 h1 v z1 => ⟨B, F0, L, F1, A, R1, (pG.bind h1).imp R1 fun d F2 H2 s2 R2 g2 h2 y ry => ?_⟩⟩
  have z := z1.later s2 (R1.keep g2)
  obtain ⟨i, p, o⟩ := q
  dsimp only at h2 z
  cases e2 : o.sub (.at d) with
  | none => rw [e2] at h2; exact h2.elim
  | some o2 =>
    rw [e2] at h2
    have e2' := e2
    obtain ⟨v0, o0, S1, Ai, S2, k1, k2, k3, k4, k5⟩ := z
    have ow : ∃ Ac, Ow G.tg G.K G.mg F2 H2 v o Ac := by obtain ⟨_, _, Ac, _, r, _⟩ := k4; exact ⟨Ac, r⟩
    obtain ⟨Ac, r⟩ := ow
    cases r with
    | @ml a xs os A1 hH ra =>
      cases d with
      | int n =>
        obtain ⟨j, j1, j2⟩ := atI_some (show atI os n = some o2 from e2)
        obtain ⟨w, _, _, _, u1, _⟩ := ra.nth j2
        have ux : atI xs n = some w := by unfold atI; rw [ra.length, j1]; exact u1
        refine ⟨w, .inl ⟨a, xs, n, rfl, by cases ry; rfl, .inl hH, ux⟩, h2 F2 H2 (.refl R2.sf) w ⟨v0, o0, S1, Ai, S2, k1, k2, k3, k4.step (s := .at (.int n)) e2' fun A r' => ?_, k5⟩⟩
        cases r' with
        | @ml _ _ _ A1' hH' ra' =>
          rw [hH] at hH'; cases hH'
          obtain ⟨w', B1, Bc, B2, t1, t2, t3, t4⟩ := ra'.nth j2
          rw [u1] at t1; cases t1
          refine ⟨a :: B1, Bc, B2, t2, by rw [t3]; simp, fun F' H' o' Ac' sm ag r'' => ?_⟩
          have := t4 F' H' o' Ac' sm (fun x m => ag x (m.imp (List.mem_cons_of_mem _) id)) r''
          show Ow G.tg G.K G.mg F' H' _ (match ixN os.length n with | some j => .ml (os.set j o') | none => .ml os) _
          rw [j1]
          simpa using Ow.ml (by rw [ag a (.inl List.mem_cons_self)]; exact hH) this
      | _ => exact absurd e2 (by unfold O.sub; intro z; cases z)
    | @mt a xs os A1 hF ra =>
      cases d with
      | int n =>
        obtain ⟨j, j1, j2⟩ := atI_some (show atI os n = some o2 from e2)
        obtain ⟨w, _, _, _, u1, _⟩ := ra.nth j2
        have ux : atI xs n = some w := by unfold atI; rw [ra.length, j1]; exact u1
        refine ⟨w, .inl ⟨a, xs, n, rfl, by cases ry; rfl, .inr (R2.sf _ _ hF), ux⟩, h2 F2 H2 (.refl R2.sf) w ⟨v0, o0, S1, Ai, S2, k1, k2, k3, k4.step (s := .at (.int n)) e2' fun A r' => ?_, k5⟩⟩
        cases r' with
        | @mt _ _ _ A1' hF' ra' =>
          rw [hF] at hF'; cases hF'
          obtain ⟨w', B1, Bc, B2, t1, t2, t3, t4⟩ := ra'.nth j2
          rw [u1] at t1; cases t1
          refine ⟨B1, Bc, B2, t2, t3, fun F' H' o' Ac' sm ag r'' => ?_⟩
          show Ow G.tg G.K G.mg F' H' _ (match ixN os.length n with | some j => .mt (os.set j o') | none => .mt os) _
          rw [j1]
          exact Ow.mt (sm _ _ hF) (t4 F' H' o' Ac' sm ag r'')
      | _ => exact absurd e2 (by unfold O.sub; intro z; cases z)
    | @mk a kvs os A1 hH ra =>
      obtain ⟨kk, j1, j2⟩ := bind_some (show ((keyD d).bind fun k => lookA os k) = some o2 from e2)
      obtain ⟨w, _, _, _, u1, _⟩ := ra.look j2
      refine ⟨w, .inr ⟨a, rfl, .inl ⟨kvs, kk, .inl hH, ry.keyD j1, u1.symm⟩⟩, h2 F2 H2 (.refl R2.sf) w ⟨v0, o0, S1, Ai, S2, k1, k2, k3, k4.step (s := .at d) e2' fun A r' => ?_, k5⟩⟩
      cases r' with
      | @mk _ _ _ A1' hH' ra' =>
        rw [hH] at hH'; cases hH'
        obtain ⟨w', B1, Bc, B2, t1, t2, t3, t4⟩ := ra'.look j2
        rw [u1] at t1; cases t1
        refine ⟨a :: B1, Bc, B2, t2, by rw [t3]; simp, fun F' H' o' Ac' sm ag r'' => ?_⟩
        have := t4 F' H' o' Ac' sm (fun x m => ag x (m.imp (List.mem_cons_of_mem _) id)) r''
        have es : (O.mk os).sput (.at d) o' = .mk (setA os kk o') := by
          show (match keyD d with | some k => O.mk (setA os k o') | none => .mk os) = _
          rw [j1]
        rw [es]
        simpa using Ow.mk (by rw [ag a (.inl List.mem_cons_self)]; exact hH) this
    | @mq a kvs os A1 hH ra =>
      cases d with
      | tup ks =>
        obtain ⟨kk, j1, j2⟩ := bind_some (show ((keysD ks).bind fun k => lookA os k) = some o2 from e2)
        obtain ⟨w, _, _, _, u1, _⟩ := ra.look j2
        cases ry with
        | @tup b vs _ hT rt =>
          refine ⟨w, .inr ⟨a, rfl, .inr ⟨kvs, kk, b, .inl hH, rfl, by rw [← rt.keysD j1]; exact R2.sf _ _ hT, u1.symm⟩⟩, h2 F2 H2 (.refl R2.sf) w ⟨v0, o0, S1, Ai, S2, k1, k2, k3, k4.step (s := .at (.tup ks)) e2' fun A r' => ?_, k5⟩⟩
          cases r' with
          | @mq _ _ _ A1' hH' ra' =>
            rw [hH] at hH'; cases hH'
            obtain ⟨w', B1, Bc, B2, t1, t2, t3, t4⟩ := ra'.look j2
            rw [u1] at t1; cases t1
            refine ⟨a :: B1, Bc, B2, t2, by rw [t3]; simp, fun F' H' o' Ac' sm ag r'' => ?_⟩
            have := t4 F' H' o' Ac' sm (fun x m => ag x (m.imp (List.mem_cons_of_mem _) id)) r''
            have es : (O.mq os).sput (.at (.tup ks)) o' = .mq (setA os kk o') := by
              show (match keysD ks with | some k => O.mq (setA os k o') | none => .mq os) = _
              rw [j1]
            rw [es]
            simpa using Ow.mq (by rw [ag a (.inl List.mem_cons_self)]; exact hH) this
      | _ => exact absurd e2 (by unfold O.sub; intro z; cases z)
    | _ => exact absurd e2 (by unfold O.sub; intro z; cases z)
/-- what stands there, read: plain data as it stands -/
def mPl (m : Sl → R Pq) : Sl → R D := fun L => (m L).bind fun q => match q.o with | .v d => .ok d | _ => .stuck
theorem ce_pl {e : Expr} {m : Sl → R Pq} (he : CQ G Γ e m) : CE G Γ e (mPl m) := by
  refine fun X ok W tk => PE.imp (he X ok W tk) fun σ H Q h => ?_
  obtain ⟨B, F0, L, F, A, R, h⟩ := h
  refine ⟨B, F0, L, F, A, R, (pG.bind h).imp R fun q F1 H1 s1 R1 g1 h1 v z => ?_⟩
  obtain ⟨i, p, o⟩ := q
  dsimp only at h1 z
  cases o with
  | v d =>
    obtain ⟨Ac, r, _⟩ := z.ow
    cases r with
    | v r => exact h1 F1 H1 (.refl R1.sf) v r
  | _ => exact h1.elim
/-! ### P.append(e), P.clear() -/
def sAppP (mp : Sl → R Pq) (m : Sl → R O) : Sl → RS := sBind mp fun q => match q.o with
  | .ml os => sBind m fun o L => if os.length < sizeLine then .next (stPut L q.i q.p (.ml (os ++ [o]))) else .stuck
  | _ => fun _ => .stuck
theorem cs_appP {r e : Expr} {mp : Sl → R Pq} {m : Sl → R O} {apos cpos pos : Pos} (hb : (attrB r && nst e && (apos.endLine == cpos.line)) = true) (hp : CQ G Γ r mp) (he : CO G Γ e m) :
    CS G Γ (.Expr (.Call (.Attribute r "append" apos) [e] [] cpos) pos) (sAppP mp m) := by
  obtain ⟨hb, hl⟩ := and2 hb
  obtain ⟨ha, hn⟩ := and2 hb
  refine fun X ok W tk => PS.imp (ps_expr (pe_bm PySem.F.plainAttrs_list PySem.F.slot_list_append PySem.F.type_list_append mt_append
    (hp X ok W tk) (pa_cons (he X ok W tk) pa_nil (star_cons hn)) (attr_base ha _ _ _) (few1 hn) hl (star_cons hn) (star_any (es := []) rfl)) (sw_none rfl _ _ _)) fun D σ H h => ?_
  obtain ⟨B, F0, L, F, A, R, h⟩ := h
  refine ⟨B, F0, L, F, A, R, (pS.first R h).imp R fun q F1 H1 s1 R1 g1 h1 v z => ?_⟩
  obtain ⟨i, p, o⟩ := q
  dsimp only at h1 z
  cases o with
  | ml os =>
    obtain ⟨_, r0, _⟩ := z.ow
    cases r0 with
    | @ml a us _ _ hH0 _ =>
      refine ⟨.inl ⟨rfl, _, .inl (.inl hH0)⟩, B, F0, L, F1, A, R1, (pS.first R1 h1).imp R1 fun o F2 H2 s2 R2 g2 h2 w C ow nC fC => ?_⟩
      split at h2
      · rename_i hz
        obtain ⟨Ac, t2, t3, t4, t5⟩ := (z.later s2 (R1.keep g2)).mut R2
        cases t2 with
        | @ml _ us1 _ A1 hH1 ra1 =>
          refine ⟨a, us1, w, rfl, rfl, hH1, by rw [ra1.length]; exact hz, ?_⟩
          have fresh : ∀ c ∈ C, c ∉ A := fun c hc m => by
            obtain ⟨u, e⟩ := R1.os.tracked c m
            rw [(fC c hc).2] at e; cases e
          have haA := t3 a List.mem_cons_self
          obtain ⟨A2, R3⟩ := t5 (upd H2 a (.lst (us1 ++ [w]))) (.ml (os ++ [o])) (a :: (A1 ++ (C ++ []))) rfl
            (fun x hx _ => upd_ne (fun z => hx (by rw [z]; exact List.mem_cons_self)))
            (.ml upd_same (OwA.append (OwA.mono (.refl _) (fun x m => upd_ne (fun z => (List.nodup_cons.mp t4).1 (z ▸ m))) ra1) (.cons (Ow.mono (.refl _) (fun x m => upd_ne (fun z => fresh x m (z ▸ haA))) ow) .nil)))
            (by
              rw [List.append_nil]
              obtain ⟨q1, q2⟩ := List.nodup_cons.mp t4
              refine List.nodup_cons.mpr ⟨fun m => ?_, List.nodup_append.mpr ⟨q2, nC, fun x hx y hy z => fresh y hy (z ▸ t3 x (List.mem_cons_of_mem _ hx))⟩⟩
              rcases List.mem_append.mp m with m | m
              · exact q1 m
              · exact fresh a m haA)
            (fun x m => by
              rcases List.mem_cons.mp m with rfl | m
              · exact .inl List.mem_cons_self
              rw [List.append_nil] at m
              rcases List.mem_append.mp m with m | m
              · exact .inl (List.mem_cons_of_mem _ m)
              · exact .inr ⟨(fC x m).1, R1.sb.free (fC x m).2, fresh x m⟩)
          exact h2 _ _ ⟨F2, A2, .refl _, R3⟩
      · exact h2.elim
  | _ => exact h1.elim
def sClrP (mp : Sl → R Pq) : Sl → RS := sBind mp fun q L => match q.o with
  | .ml _ => .next (stPut L q.i q.p (.ml []))
  | _ => .stuck
theorem cs_clrP {r : Expr} {mp : Sl → R Pq} {apos cpos pos : Pos} (hb : (attrB r && (apos.endLine == cpos.line)) = true) (hp : CQ G Γ r mp) : CS G Γ (.Expr (.Call (.Attribute r "clear" apos) [] [] cpos) pos) (sClrP mp) := by
  obtain ⟨ha, hl⟩ := and2 hb
  refine fun X ok W tk => PS.imp (ps_expr (pe_bm0 PySem.F.plainAttrs_list PySem.F.slot_list_clear PySem.F.type_list_clear mt_clear (hp X ok W tk) (attr_base ha _ _ _) hl) (sw_none rfl _ _ _)) fun D σ H h => ?_
  obtain ⟨B, F0, L, F, A, R, h⟩ := h
  refine ⟨B, F0, L, F, A, R, (pS.first R h).imp R fun q F1 H1 s1 R1 g1 h1 v z => ?_⟩
  obtain ⟨i, p, o⟩ := q
  dsimp only at h1 z
  cases o with
  | ml os =>
    obtain ⟨Ac, t2, t3, t4, t5⟩ := z.mut R1
    cases t2 with
    | @ml a us _ A' hH ra =>
      refine ⟨.inl ⟨rfl, _, .inl (.inl hH)⟩, a, us, rfl, rfl, hH, ?_⟩
      obtain ⟨A2, R2⟩ := t5 (upd H1 a (.lst [])) (.ml []) [a] rfl (fun x hx _ => upd_ne (fun z => hx (by rw [z]; exact List.mem_cons_self)))
        (.ml upd_same .nil) (by simp) (fun x m => .inl (by
          rcases List.mem_cons.mp m with rfl | m
          · exact List.mem_cons_self
          · cases m))
      exact h1 _ _ ⟨F1, A2, .refl _, R2⟩
  | _ => exact h1.elim
/-! ### the things in a list frozen, not the list -/
theorem RpA.owv {tg : Tg} {K : PySem.W.Frag} {mg : Str → Option Value} {F H : Hp} : ∀ {vs : List V} {ds : List D}, RpA K mg F vs ds → OwA tg K mg F H vs (ds.map .v) []
  | _, _, .nil => .nil
  | _, _, .cons r t => OwA.cons (A := []) (B := []) (.v r) (RpA.owv t)
theorem Rl.frzE (R : Rl G B F0 L F A σ H) {i : Nat} {os : List O} (e : L[i]? = some (some (.ml os))) : ∃ F' A', Same F F' ∧ Rl G B F0 (L.set i (some (.ml ((O.frA os).map .v)))) F' A' σ H := by
  obtain ⟨v, A1, Ai, A2, h1, h2, h3, h4⟩ := R.os.get e
  cases h2 with
  | @ml l us _ Ae hH ra =>
    have hl : l ∈ A := by rw [h3]; simp
    have hi : ∀ a ∈ Ae, a ∈ A := fun a m => by rw [h3]; simp [m]
    have s1 : Same F (join F H Ae) := join_same fun a m => (R.fa a (hi a m)).1
    have nd := R.nd
    rw [h3] at nd
    have n1 := List.nodup_append.mp nd
    have n2 := List.nodup_append.mp n1.1
    obtain ⟨n3, n4⟩ := List.nodup_cons.mp n2.2.1
    have q := h4 (join F H Ae) H (.ref l) (.ml ((O.frA os).map .v)) [l] s1 (fun _ _ => rfl) (.ml hH (RpA.owv (OwA.fr (fun a m => (R.fa a (hi a m)).1) (fun a m => m) ra)))
    rw [get_set h1] at q
    have sub : ∀ a ∈ A1 ++ [l] ++ A2, a ∈ A ∧ a ∉ Ae := fun a m => by
      refine ⟨by rw [h3]; simp at m ⊢; rcases m with m | m | m <;> simp [m], fun ha => ?_⟩
      simp at m
      rcases m with m | m | m
      · exact n2.2.2 a m a (List.mem_cons_of_mem _ ha) rfl
      · exact n3 (m ▸ ha)
      · exact n1.2.2 a (List.mem_append_right _ (List.mem_cons_of_mem _ ha)) a m rfl
    refine ⟨join F H Ae, A1 ++ [l] ++ A2, s1, q, ?_, join_le R.sf, R.f0.trans s1, R.sb, fun a h0 h1 => ?_, fun a m => ?_, pn_mut e rfl R.pn⟩
    · refine List.nodup_append.mpr ⟨List.nodup_append.mpr ⟨n2.1, by simp, fun a ha b hb z => ?_⟩, n1.2.1, fun a ha b hb z => ?_⟩
      · rw [List.mem_singleton] at hb
        exact n2.2.2 a ha l List.mem_cons_self (z.trans hb)
      · rcases List.mem_append.mp ha with ha | ha
        · exact n1.2.2 a (List.mem_append_left _ ha) b hb z
        · rw [List.mem_singleton] at ha
          exact n1.2.2 l (List.mem_append_right _ List.mem_cons_self) b hb (ha.symm.trans z)
    · by_cases hm : a ∈ Ae
      · exact absurd (R.fa a (hi a hm)).2 h1.1
      · rw [join_not hm]; exact R.fb a h0 h1
    · obtain ⟨m1, m2⟩ := sub a m
      rw [join_not m2]; exact R.fa a m1
def sFrE (i : Nat) (k : Sl → RS) : Sl → RS := fun L => match L[i]? with | some (some (.ml os)) => k (L.set i (some (.ml ((O.frA os).map .v)))) | _ => .stuck
theorem cs_frE (i : Nat) {b : Stmt} {k : Sl → RS} (h : CS G Γ b k) : CS G Γ b (sFrE i k) := fun X ok W tk => PS.imp (h X ok W tk) fun D σ H h => by
  obtain ⟨B, F0, L, F, A, R, h⟩ := h
  unfold sFrE at h
  split at h
  · rename_i os e
    obtain ⟨F', A', s, R'⟩ := R.frzE e
    exact ⟨B, F0, _, F', A', R', pS.mono s h⟩
  · exact h.elim
end
end Eng

end
section
set_option Elab.async false
set_option linter.all false
set_option maxRecDepth 100000
set_option maxHeartbeats 4000000
/-! the engine, part 29: dict() of pairs whose keys are tuples; isinstance of own things -/
namespace Eng
open PySem PySem.Spec PyProof.Rows L2
section
variable {G : Gd} {Γ : Gm}
def putA {κ : Type} [DecidableEq κ] (kvs : List (κ × D)) (k : κ) (d : D) : List (κ × D) := if (kvs.any fun kv => decide (kv.1 = k)) = true then kvs.map (fun kv => if kv.1 = k then (kv.1, d) else kv) else kvs ++ [(k, d)]
def mergeA {κ : Type} [DecidableEq κ] : List (κ × D) → List (κ × D) → List (κ × D)
  | os, [] => os
  | os, (k, d) :: r => mergeA (putA os k d) r
def mergeV (kvs : List (List Key × V)) : List (List Key × V) → List (List Key × V)
  | [] => kvs
  | (k, v) :: r => mergeV (putK kvs k v) r
termination_by r => r.length
theorem mergeV_len : ∀ (r kvs : List (List Key × V)), (mergeV kvs r).length ≤ kvs.length + r.length
  | [], kvs => by unfold mergeV; simp
  | (k, v) :: r, kvs => by
    unfold mergeV
    have g1 := mergeV_len r (putK kvs k v)
    have g2 := length_putK kvs k v
    rw [List.length_cons]
    omega
/-- key, where the key's tuple stands, value -/
abbrev KAV := List Key × Addr × V
theorem KT_all {H : Hp} : ∀ {ws : List KAV} {prs : List (List Key × Addr × Value)} {kvs : List (List Key × V)} {xs : List (List Key × Addr × Value)},
    Paired (fun (z : KAV) q => z.1 = q.1 ∧ z.2.1 = q.2.1 ∧ H z.2.1 = some (.tup (z.1.map kV)) ∧ RelV z.2.2 q.2.2) ws prs → KT H kvs xs → KT H (mergeV kvs (ws.map fun z => (z.1, z.2.2))) (PySem.storedAllH xs prs)
  | _, _, _, _, .nil, r => by unfold mergeV PySem.storedAllH; exact r
  | _, _, _, _, .cons (a := z) (b := q) h t, r => by
    obtain ⟨h1, h2, h3, h4⟩ := h
    obtain ⟨k, p, v⟩ := z
    obtain ⟨k', p', u⟩ := q
    dsimp only at h1 h2 h3 h4
    subst h1 h2
    rw [List.map_cons]
    unfold mergeV
    have y := KT_all t (r.put k h3 h4)
    exact y
theorem tpairs_of {X : Cx} {pins : List (Addr × Obj)} {σ : L2.St} {H : Hp} {s : Shared} (I : Inv X pins σ H s) : ∀ {ps : List Addr} {ws : List KAV}, Paired (fun p (z : KAV) => SqT X.K H p [.ref z.2.1, z.2.2] ∧ H z.2.1 = some (.tup (z.1.map kV))) ps ws →
    ∃ prs : List (List Key × Addr × Value), Paired (fun (z : KAV) q => z.1 = q.1 ∧ z.2.1 = q.2.1 ∧ H z.2.1 = some (.tup (z.1.map kV)) ∧ RelV z.2.2 q.2.2) ws prs ∧ prs.length = ps.length ∧
      ∀ (j : Nat) (q : List Key × Addr × Value), prs[j]? = some q → ∃ p : Addr, ps[j]? = some p ∧ IsTup s.heap p #[.ref q.2.1, q.2.2] ∧ (tupleKind (mixKind X.prog X.w)).is s.heap q.1 q.2.1
  | _, _, .nil => ⟨[], .nil, rfl, fun j q e => by simp at e⟩
  | _, _, .cons (a := p) (b := z) h t => by
    obtain ⟨prs, r, hl, hp⟩ := tpairs_of I t
    obtain ⟨h1, h2⟩ := h
    obtain ⟨its, rv, ht, _⟩ := I.tuple h1
    obtain ⟨u, y, ei, ru, ry⟩ := vals2 rv
    subst ei
    cases (show u = Value.ref z.2.1 from ru)
    refine ⟨(z.1, z.2.1, y) :: prs, .cons ⟨rfl, rfl, h2, ry⟩ r, by simp [hl], fun j q e => ?_⟩
    cases j with
    | zero =>
      cases (Option.some.inj (show some (z.1, z.2.1, y) = some q from e))
      exact ⟨p, rfl, ht, key_of I.hok h2⟩
    | succ j =>
      obtain ⟨b, e1, e2⟩ := hp j q (by simpa using e)
      exact ⟨b, by simpa using e1, e2⟩
theorem tup_pair {h : Heap} {p : Addr} {a b : Value} (x : IsTup h p #[a, b]) : PySem.PairAt h p a b := by
  obtain ⟨o, h1, h2, n, h3⟩ := x
  exact .inl ⟨o, h1, h2, n, h3⟩
theorem call_dictPT {X : Cx} (hcalm : X.calm = true) (hu : X.A.units + 9 < cLine) : CallR X (.type "dict") (fun xs H Q => ∃ (a : Addr) (ps : List Addr) (ws : List KAV), xs = [.ref a] ∧ SqL X.K H a (ps.map V.ref) ∧
    Paired (fun p (z : KAV) => SqT X.K H p [.ref z.2.1, z.2.2] ∧ H z.2.1 = some (.tup (z.1.map kV))) ps ws ∧ ∀ p, H p = none → Q (.ref p) (upd H p (.dT (mergeV [] (ws.map fun z => (z.1, z.2.2)))))) := by
  intro pins s σ H xs us Q I r q
  obtain ⟨a, ps, ws, ex, hq, hp, q⟩ := q
  subst ex
  obtain ⟨u, eu, rx⟩ := vals1 r
  subst eu
  cases rx
  obtain ⟨its, rv, pl, hz⟩ := I.list hq
  cases refs_at rv
  rw [List.length_map] at hz
  obtain ⟨prs, rel, hl, hpr⟩ := tpairs_of I hp
  obtain ⟨o, n, ho, hc, hd, hdat⟩ := pl
  have sz : prs.length ≤ sizeLine := by rw [hl]; exact hz
  let vv : List (Value × Value) := prs.map fun q => (Value.ref q.2.1, q.2.2)
  have at_ps : ∀ (j : Nat) (k v : Value), vv[j]? = some (k, v) → ∃ q : List Key × Addr × Value, prs[j]? = some q ∧ k = Value.ref q.2.1 ∧ v = q.2.2 := fun j k v e => by
    rw [List.getElem?_map] at e
    obtain ⟨q, e1, e2⟩ := map_some e
    cases e2
    exact ⟨q, e1, rfl, rfl⟩
  have P := PySem.PairArg.list (prog := X.prog) (w := X.w) a (ps.map Value.ref).toArray (fun j => ps.getD j 0) vv
  refine PySem.call_dict_pairsH (knd := tupleKind (mixKind X.prog X.w)) (ps := prs) P (I.ok.hd hcalm) ?_ ⟨⟨o, n, ho, hc, hd, hdat⟩, by simp [vv, hl], fun j k v e => ?_⟩ ⟨by simp [vv], fun j k v e => ?_⟩ (fun h' hk x hx => ?_) (by simpa [vv] using sz) fun h' tk hd' hk => ?_
  · exact tupleKind_room_in1 (by have e1 : X.A.in1.units = X.A.units + 1 := rfl; omega)
  · obtain ⟨q, e1, rfl, rfl⟩ := at_ps j k v e
    obtain ⟨p, e2, e3, _⟩ := hpr j q e1
    refine ⟨by simp [List.getD_eq_getElem?_getD, e2], ?_⟩
    show PySem.PairAt s.heap (ps.getD j 0) _ _
    rw [List.getD_eq_getElem?_getD, e2]
    exact tup_pair e3
  · obtain ⟨q, e1, rfl, rfl⟩ := at_ps j k v e
    exact ⟨q.1, q.2.1, e1, rfl⟩
  · obtain ⟨j, hj⟩ := List.mem_iff_getElem?.mp hx
    obtain ⟨p, _, _, e4⟩ := hpr j x hj
    obtain ⟨o', its', n', t1, t2, t3, t4⟩ := e4
    exact ⟨o', its', n', hk _ _ (Nat.ne_of_lt (Heap.lt_size t1)) (fun z => nomatch z) t1, t2, t3, t4⟩
  · have hm : (s.heap.objs.size == sysModules) = false := beq_eq_false_iff_ne.mpr (Nat.ne_of_gt I.big)
    have wl : ws.length = prs.length := Paired.length rel
    have hlen : (mergeV [] (ws.map fun z => (z.1, z.2.2))).length ≤ sizeLine := by
      refine Nat.le_trans (mergeV_len _ _) ?_
      rw [List.length_nil, Nat.zero_add, List.length_map, wl]
      exact sz
    have kt := KT_all rel (H := H) (kvs := []) (xs := []) .nil
    refine ⟨.ref s.heap.objs.size, upd H s.heap.objs.size (.dT (mergeV [] (ws.map fun z => (z.1, z.2.2)))), I.laid (t' := tk) (fun b o e => hk b o (fun z => nomatch z) e) (Nat.le_refl _) ?_, rfl, q _ (I.hok.fresh (Nat.le_refl _))⟩
    obtain ⟨q1, es, ep, g1, g2, g3, g4, _, g5⟩ := hd'
    refine ⟨hlen, hm, _, kt.keeps fun c ys ec => ?_, q1, es, ep, g1, g2, g3, g4, g5⟩
    rw [upd_ne (ne_of_none ec (I.hok.fresh (Nat.le_refl _)))]
    exact ec
/-! the same by data -/
def pairsTD : List D → Option (List (List Key × D))
  | [] => some []
  | .tup [.tup ks, x] :: r => (keysD ks).bind fun j => (pairsTD r).map ((j, x) :: ·)
  | _ => none
theorem RpA.pairsT {K : PySem.W.Frag} {mg : Str → Option Value} {F : Hp} : ∀ {vs : List V} {ds : List D} {kvs : List (List Key × D)}, RpA K mg F vs ds → pairsTD ds = some kvs →
    ∃ (ps : List Addr) (ws : List KAV), vs = ps.map V.ref ∧ Paired (fun p (z : KAV) => F p = some (.tup [.ref z.2.1, z.2.2]) ∧ F z.2.1 = some (.tup (z.1.map kV))) ps ws ∧ RpT K mg F (ws.map fun z => (z.1, z.2.2)) kvs
  | _, _, _, .nil, e => by cases e; exact ⟨[], [], rfl, .nil, .nil⟩
  | _, _, _, .cons (d := d) (ds := ds) r t, e => by
    unfold pairsTD at e
    split at e
    · rename_i h; cases h
    · rename_i ks x ds' h
      cases h
      obtain ⟨j, e1, e2⟩ := bind_some e
      obtain ⟨ms, e3, rfl⟩ := map_some e2
      obtain ⟨ps, ws, rfl, h2, h3⟩ := RpA.pairsT t e3
      cases r with
      | @tup a xs ds'' h4 r4 =>
        cases r4 with
        | @cons v1 _ _ _ r5 r6 => cases r6 with
          | @cons v2 _ _ _ r7 r8 =>
            cases r8
            cases r5 with
            | @tup b ys ds3 h5 r9 =>
              have ek := r9.keysD e1
              subst ek
              exact ⟨a :: ps, (j, b, v2) :: ws, rfl, .cons ⟨h4, h5⟩ h2, .cons r7 h3⟩
    · cases e
theorem RpT.keysE {K : PySem.W.Frag} {mg : Str → Option Value} {F : Hp} : ∀ {vs : List (List Key × V)} {os : List (List Key × D)}, RpT K mg F vs os → vs.map (·.1) = os.map (·.1)
  | _, _, .nil => rfl
  | _, _, .cons _ t => by rw [List.map_cons, List.map_cons, RpT.keysE t]
theorem RpT.mapE {K : PySem.W.Frag} {mg : Str → Option Value} {F : Hp} {k : List Key} {v : V} {d : D} (r : Rp K mg F v d) : ∀ {vs : List (List Key × V)} {os : List (List Key × D)}, RpT K mg F vs os →
    RpT K mg F (vs.map fun kv => if kv.1 = k then (kv.1, v) else kv) (os.map fun kv => if kv.1 = k then (kv.1, d) else kv)
  | _, _, .nil => .nil
  | _, _, .cons (x := x) q t => by
    rw [List.map_cons, List.map_cons]
    by_cases e : x = k
    · rw [if_pos e, if_pos e]; exact .cons r (RpT.mapE r t)
    · rw [if_neg e, if_neg e]; exact .cons q (RpT.mapE r t)
theorem RpT.snocE {K : PySem.W.Frag} {mg : Str → Option Value} {F : Hp} {k : List Key} {v : V} {d : D} (r : Rp K mg F v d) : ∀ {vs : List (List Key × V)} {os : List (List Key × D)}, RpT K mg F vs os → RpT K mg F (vs ++ [(k, v)]) (os ++ [(k, d)])
  | _, _, .nil => .cons r .nil
  | _, _, .cons q t => .cons q (RpT.snocE r t)
theorem RpT.putE {K : PySem.W.Frag} {mg : Str → Option Value} {F : Hp} {k : List Key} {v : V} {d : D} (r : Rp K mg F v d) {vs : List (List Key × V)} {os : List (List Key × D)} (q : RpT K mg F vs os) : RpT K mg F (putK vs k v) (putA os k d) := by
  have ea := any_fst (k := k) q.keysE
  unfold putK putA
  rw [ea]
  split
  · exact RpT.mapE r q
  · exact RpT.snocE r q
theorem RpT.mergeE {K : PySem.W.Frag} {mg : Str → Option Value} {F : Hp} : ∀ {more : List (List Key × V)} {ms : List (List Key × D)} {vs : List (List Key × V)} {os : List (List Key × D)}, RpT K mg F more ms → RpT K mg F vs os → RpT K mg F (mergeV vs more) (mergeA os ms)
  | _, _, _, _, .nil, q => by unfold mergeV mergeA; exact q
  | (k, v) :: more, (_, d) :: ms, vs, os, .cons r t, q => by
    unfold mergeV mergeA
    exact RpT.mergeE t (RpT.putE r q)
theorem RpT.asOwE {tg : Tg} {K : PySem.W.Frag} {mg : Str → Option Value} {F H : Hp} : ∀ {vs : List (List Key × V)} {ds : List (List Key × D)}, RpT K mg F vs ds → OwT tg K mg F H vs (ds.map fun p => (p.1, O.v p.2)) []
  | _, _, .nil => .nil
  | _, _, .cons r t => .cons (A := []) (B := []) (.v r) (RpT.asOwE t)
def fDictT : List D → Option O
  | [.lst ds] => (pairsTD ds).map fun kvs => .mq ((mergeA [] kvs).map fun p => (p.1, .v p.2))
  | _ => none
theorem new_mq {F H : Hp} {vs : List (List Key × V)} {ds : List (List Key × D)} {Q : VK} {p : Addr} (sf : Same F H) (rv : RpT G.K G.mg F vs ds) (hp : H p = none)
    (h : ∀ v C F' H', Grow F H F' H' → Ow G.tg G.K G.mg F' H' v (.mq (ds.map fun p => (p.1, .v p.2))) C → C.Nodup → (∀ a ∈ C, F' a = none ∧ H a = none) → Q v H') : Q (.ref p) (upd H p (.dT vs)) := by
  refine h (.ref p) [p] F (upd H p (.dT vs)) ⟨fun a u e => ?_, .refl _, fun a u e => ?_, fun _ e _ => e⟩ (.mq upd_same rv.asOwE) (by simp) (fun a m => ?_)
  · rw [upd_ne (ne_of_none e hp)]; exact e
  · rw [upd_ne (ne_of_none (sf _ _ e) hp)]; exact sf _ _ e
  · cases List.mem_singleton.mp m
    exact ⟨sf.free hp, hp⟩
theorem b_dictT : BltO G fDictT (.type "dict") := by
  intro X Γ ok cl pins s σ H xs us Q I r h
  obtain ⟨F, ds, d, sf, hr, e, h⟩ := h
  unfold fDictT at e
  split at e
  · obtain ⟨kvs, e1, rfl⟩ := map_some e
    cases hr with
    | cons r1 r2 => cases r2; cases r1 with
      | lst h1 r1 =>
        obtain ⟨ps, ws, rfl, h2, h3⟩ := r1.pairsT e1
        exact call_dictPT cl (by have := ok.un; omega) pins s σ H _ us Q I r ⟨_, ps, ws, rfl, by rw [ok.K]; exact Same.seq sf h1, Paired.imp' (fun p kv e => ⟨by rw [ok.K]; exact sf.tq e.1, sf _ _ e.2⟩) h2,
          fun p hp => new_mq sf (RpT.mergeE h3 .nil) hp h⟩
  · cases e
/-! ### isinstance(x, tuple), whatever stands in it; isinstance(x, C) of an own class -/
def fIsT (t : String) : D → Option D
  | .tup ds => if t = "tuple" then some (.bl true) else fIsi t (.tup ds)
  | d => fIsi t d
theorem isT_call {X : Cx} (ok : Γ.Ok G X) {t : String} {pins : List (Addr × Obj)} {s : Shared} {σ : L2.St} {F H : Hp} {x : V} {v : Value} {dx d : D} {Q : VK} (I : Inv X pins σ H s) (rx : RelV x v) (sf : Same F H) (hx : Rp G.K G.mg F x dx) (e : fIsT t dx = some d)
    (h : ∀ v F' H', Grow F H F' H' → Rp G.K G.mg F' v d → Q v H') : wpAny (model X.prog X.w) X.A (call (.builtin "isinstance") [v, .type t]) (EP X pins σ Q) X.xe s := by
  unfold fIsT at e
  split at e
  · split at e
    · rename_i ds ht
      subst ht; cases e
      cases hx with
      | tup h1 r1 => exact isinst_ok I rx (.tup (sf _ _ h1)) (kit_ty (by unfold kitB; rw [if_pos (by decide)])) fun tk => ep_tok I sf h
    · exact isi_call ok I rx sf hx e h
  · exact isi_call ok I rx sf hx e h
theorem ce_isTy (gr : Γ.Gr G) {x : Str} {t : String} {a : Expr} {m : Sl → R D} {p p2 pos : Pos} (hx : ("isinstance" : Str) ∈ Γ.X) (hxt : x ∈ Γ.X) (hg : glB Γ.sc "isinstance" = true) (hgt : glB Γ.sc x = true) (hv : bootBuiltins x = some (.type t)) (hn : x ≠ "__name__") (hdb : (x == ("__debug__" : Str)) = false)
    (hs : nst a = true) (ha : CE G Γ a m) : CE G Γ (.Call (.Name "isinstance" p) [a, .Name x p2] [] pos) (m1 (fIsT t) m) := by
  refine fun X ok W tk => ⟨fun pins s σ H Q I h => ?_⟩
  obtain ⟨B, F0, L, F, A, R, h⟩ := h
  refine wpAny_Call_Name_kw (ld_blt I (gl_of ok.sc hg) (by rw [ok.mg]; exact gr.bl _ hx) boot_isinstance ?_ (by decide) (by decide))
  have two : PE X (.Name x p2) (tC (.ty t)) := pe_bltn (gl_of ok.sc hgt) (by rw [ok.mg]; exact gr.bl _ hxt) hv rfl hn hdb
  have args : PA X [a, .Name x p2] (tCons (tE G W m) (tCons (tC (.ty t)) tNil)) := pa_cons (ha X ok W tk) (pa_cons two pa_nil rfl) (star_cons hs)
  refine PyProof.Rows.callWith_builtin1 (thn (args.run pos pins s σ H (fun vs H1 => ∃ x, vs = [x, .ty t] ∧ ∃ F1 dx d, Same F1 H1 ∧ Rp G.K G.mg F1 x dx ∧ fIsT t dx = some d ∧ ∀ v F' H', Grow F1 H1 F' H' → Rp G.K G.mg F' v d → Q v H') I ?_) fun us s1 hh => ?_) (star_cons hs) rfl
  · refine ⟨B, F0, L, F, A, R, (pG.bind h).imp R fun dx F1 H1 s1 R1 g1 h1 v rv => ⟨v, rfl, F1, dx, ?_⟩⟩
    cases e : fIsT t dx with
    | none => rw [e] at h1; exact h1.elim
    | some d => rw [e] at h1; exact ⟨d, R1.sf, rv, rfl, fun v F' H' g r => h1 F' H' g v r⟩
  · obtain ⟨vs, H1, I1, rvs, x', rfl, F1, dx, d, sf, hx', e, q⟩ := hh
    cases rvs with
    | cons r1 r2 => cases r2 with
      | cons r2 r3 =>
        cases r3
        cases r2
        exact isT_call ok I1 r1 sf hx' e q
def fIsO (h : Str) : D → Option D
  | .ins c _ => if c = h then some (.bl true) else none
  | _ => none
def isOB (Γ : Gm) (h : Str) (a : Expr) : Bool := decide (("isinstance" : Str) ∈ Γ.X) && glB Γ.sc "isinstance" && nst a && glB Γ.sc h && !(h == ("__debug__" : Str)) && decide (h ∈ Γ.Is)
theorem ce_isO (gr : Γ.Gr G) {cn : Str} {a : Expr} {m : Sl → R D} {p p2 pos : Pos} (hb : isOB Γ cn a = true) (ha : CE G Γ a m) : CE G Γ (.Call (.Name "isinstance" p) [a, .Name cn p2] [] pos) (m1 (fIsO cn) m) := by
  unfold isOB at hb
  obtain ⟨hb, hi⟩ := and2 hb
  obtain ⟨hb, hd⟩ := and2 hb
  obtain ⟨hb, hgh⟩ := and2 hb
  obtain ⟨hb, hs⟩ := and2 hb
  obtain ⟨hx, hg⟩ := and2 hb
  have hx := of_decide_eq_true hx
  obtain ⟨C, cv, e1, e2, e3, e4⟩ := gr.isc cn (of_decide_eq_true hi)
  refine fun X ok W tk => ⟨fun pins s σ H Q I h => ?_⟩
  obtain ⟨B, F0, L, F, A, R, h⟩ := h
  refine wpAny_Call_Name_kw (ld_blt I (gl_of ok.sc hg) (by rw [ok.mg]; exact gr.bl _ hx) boot_isinstance ?_ (by decide) (by decide))
  have two : PE X (.Name cn p2) (tC cv) := pe_glob (gl_of ok.sc hgh) (by rw [ok.mg]; exact e1) e3 (by simpa using hd)
  have args := pa_cons (ha X ok W tk) (pa_cons two pa_nil rfl) (star_cons hs)
  refine PyProof.Rows.callWith_builtin1 (thn (args.run pos pins s σ H (fun vs H1 => ∃ x, vs = [x, cv] ∧ ∃ F1 dx d, Same F1 H1 ∧ Rp G.K G.mg F1 x dx ∧ fIsO cn dx = some d ∧ ∀ v F' H', Grow F1 H1 F' H' → Rp G.K G.mg F' v d → Q v H') I ?_) fun us s1 hh => ?_) (star_cons hs) rfl
  · refine ⟨B, F0, L, F, A, R, (pG.bind h).imp R fun dx F1 H1 s1 R1 g1 h1 v rv => ⟨v, rfl, F1, dx, ?_⟩⟩
    cases e : fIsO cn dx with
    | none => rw [e] at h1; exact h1.elim
    | some d => rw [e] at h1; exact ⟨d, R1.sf, rv, rfl, fun v F' H' g r => h1 F' H' g v r⟩
  · obtain ⟨vs, H1, I1, rvs, x', rfl, F1, dx, d, sf, hx', e, q⟩ := hh
    cases rvs with
    | cons r1 r2 => cases r2 with
      | cons r2 r3 =>
        cases r3
        unfold fIsO at e
        split at e
        · split at e
          · rename_i c fs hc
            subst hc; cases e
            cases hx' with
            | @ins a' C' dx' c' fs' gs hF hm rf =>
              rw [e1] at hm; cases hm
              have ev := e4.eq r2
              subst ev
              exact isinst_ok I1 r1 (.ins (sf _ _ hF) (by rw [ok.K]; exact e2.cl) (by rw [ok.K]; exact e2.ha) (by rw [ok.K]; exact e2.hn) (by rw [ok.K]; exact e2.ht) (by rw [ok.K]; exact e2.hm)) (by unfold PySem.W.kitOne; rw [if_pos (by simp)]) fun tk => ep_tok I1 sf q
          · cases e
        · cases e
/-- what the head tells of a class that isinstance is asked of -/
structure InsF (K : PySem.W.Frag) (c : Str) : Prop where
  ex : ∃ C : Addr, PySem.W.nsIn K mainGlobals c = some (some (.ref C)) ∧ PySem.W.findIn K (.ref C) "__class__" = some (some (.builtin "object.__class__")) ∧
    PySem.W.specialIn K (.builtin "object.__class__") "__get__" = some (some (.builtin "getset_descriptor.__get__")) ∧ PySem.W.takesIn K (.builtin "object.__class__") = some true ∧ PySem.W.mroIn K C (.type "object") = some true
theorem InsF.isc {hp : Heap} {c : Str} {P : Addr → Prop} (M : InsF G.K c) (X : G.K.In hp) (N : hp.Ns mainGlobals G.mg) (h : ∃ C, G.mg c = some (.ref C) ∧ Cls G.K C ∧ P C) : ∃ C v, G.mg c = some (.ref C) ∧ InsC G.K C ∧ RelV v (.ref C) ∧ ClsV v (.ref C) := by
  obtain ⟨C, h1, h2, h3, h4, h5⟩ := M.ex
  obtain ⟨C', e1, e2, _⟩ := h
  have z := PySem.W.mg_of X N h1
  rw [e1] at z; cases z
  exact ⟨C, .ref C, e1, ⟨e2, h2, h3, h4, h5⟩, rfl, .own C⟩
theorem ce_isTn (gr : Γ.Gr G) {x : Str} {t : String} {a : Expr} {m : Sl → R D} {p p2 pos : Pos} (hv : bootBuiltins x = some (.type t)) (h : isiB Γ x a = true) (ha : CE G Γ a m) : CE G Γ (.Call (.Name "isinstance" p) [a, .Name x p2] [] pos) (m1 (fIsT t) m) := by
  unfold isiB at h
  obtain ⟨h, g7⟩ := and2 h
  obtain ⟨h, g6⟩ := and2 h
  obtain ⟨h, g5⟩ := and2 h
  obtain ⟨h, g4⟩ := and2 h
  obtain ⟨h, g3⟩ := and2 h
  obtain ⟨g1, g2⟩ := and2 h
  exact ce_isTy gr (of_decide_eq_true g1) (of_decide_eq_true g2) g3 g4 hv (of_decide_eq_true g6) (by simpa using g7) g5 ha
end
end Eng

end
section
set_option Elab.async false
set_option linter.all false
set_option maxRecDepth 100000
set_option maxHeartbeats 4000000
/-! the engine, part 30: len(set(x)), x a tuple of texts -/
namespace Eng
open PySem PySem.Spec PyProof.Rows L2
section
variable {G : Gd} {Γ : Gm}
def fLenSet : D → Option D
  | .tup ds => (strsD ds).bind fun xs => if xs.length ≤ 1000 then some (.int (dist xs)) else none
  | _ => none
def lenSetB (Γ : Gm) (a : Expr) : Bool := Γ.cm && decide (("len" : Str) ∈ Γ.X) && decide (("set" : Str) ∈ Γ.X) && glB Γ.sc "len" && glB Γ.sc "set" && nst a
theorem ce_lenSet (gr : Γ.Gr G) {a : Expr} {m : Sl → R D} {p p2 q pos : Pos} (h : lenSetB Γ a = true) (ha : CE G Γ a m) : CE G Γ (.Call (.Name "len" p) [.Call (.Name "set" p2) [a] [] q] [] pos) (m1 fLenSet m) := by
  unfold lenSetB at h
  obtain ⟨h, h5⟩ := and2 h
  obtain ⟨h, h4⟩ := and2 h
  obtain ⟨h, h3⟩ := and2 h
  obtain ⟨h1, h2⟩ := and2 h
  obtain ⟨h0, h1⟩ := and2 h1
  refine fun X ok W tk => ⟨fun pins s σ H Q I hq => ?_⟩
  obtain ⟨B, F0, L, F, A, R, hq⟩ := hq
  refine Call_ (ld_blt I (gl_of ok.sc h3) (by rw [ok.mg]; exact gr.bl _ (of_decide_eq_true h1)) boot_len ?_)
  refine PyProof.Rows.callWith_builtin1 (PyProof.Rows.args_cons ?_ rfl) rfl rfl
  refine Call_ (ld_blt I (gl_of ok.sc h4) (by rw [ok.mg]; exact gr.bl _ (of_decide_eq_true h2)) boot_set ?_)
  have hE : tE G W m σ H fun x H1 => ∃ (l : Addr) (xs : List Str), x = .ref l ∧ SqT X.K H1 l (xs.map V.str) ∧ xs.length ≤ 1000 ∧ Q (.int (dist xs)) H1 := by
    refine ⟨B, F0, L, F, A, R, (pG.bind hq).imp R fun d F1 H1 s1 R1 g1 h1 v rv => ?_⟩
    cases d with
    | tup ds =>
      unfold fLenSet at h1; dsimp only at h1
      cases e : strsD ds with
      | none => rw [e] at h1; exact h1.elim
      | some xs =>
        rw [e] at h1
        by_cases c : xs.length ≤ 1000
        · have h2 : pG G W σ F1 H1 (Eng.R.ok (D.int (dist xs))) (fun d F' H' => ∀ v, Rp G.K G.mg F' v d → Q v H') := by
            have : (lift ((some xs).bind fun xs => if xs.length ≤ 1000 then some (D.int (dist xs)) else none) : Eng.R D) = .ok (.int (dist xs)) := by simp [c, lift]
            rw [← this]; exact h1
          cases rv with
          | @tup l us _ hF r1 => exact ⟨l, xs, rfl, by rw [ok.K, ← r1.strsD e]; exact R1.sf.tq hF, c, h2 F1 H1 (.refl R1.sf) _ (.int _)⟩
        · have : (lift ((some xs).bind fun xs => if xs.length ≤ 1000 then some (D.int (dist xs)) else none) : Eng.R D) = .stuck := by simp [c, lift]
          rw [this] at h1; exact h1.elim
    | _ => exact h1.elim
  refine PyProof.Rows.callWith_type1 (PyProof.Rows.args_cons (thn ((ha X ok W tk).run pins s σ H _ I hE) fun v s1 ⟨x, H1, I1, r1, q1⟩ => PyProof.Rows.args_nil ?_) (star_cons h5)) (star_cons h5) rfl
  obtain ⟨l, xs, rfl, sq, few, q1⟩ := q1
  cases r1
  obtain ⟨its, r, pl, hz⟩ := I1.tuple sq
  refine set_of_tup xs (I1.ok.hd (ok.calm h0)) pl (by simpa using strsAre_of r) (by show xs.length + 1 < 4096; omega) fun h' tk hS hk => ?_
  refine PyProof.Rows.args_nil ?_
  obtain ⟨o, es, ep, t, ho, hex, hd, _, _, _, hf, hn⟩ := hS
  have bd : dist xs ≤ xs.length := by have := distR_le xs.reverse; rw [List.length_reverse] at this; exact this
  have I2 : Inv X pins σ H1 { s1 with heap := h', toks := tk } := I1.kept fun b o e => hk b o e
  exact call_len_set ho hex hd hf (by rw [hn]; omega) ⟨.int (dist xs), H1, I2.tok _, ⟨_, by rw [hn]⟩, q1⟩
end
end Eng

end
section
set_option Elab.async false
set_option linter.all false
set_option maxRecDepth 100000
set_option maxHeartbeats 4000000
/-! the engine, part 31: a dict display with texts for keys -/
namespace Eng
open PySem PySem.Spec PyProof.Rows L2
section
variable {G : Gd} {Γ : Gm}
/-- the pairs of a display -/
def RpP (K : PySem.W.Frag) (mg : Str → Option Value) (F : Hp) : List (V × V) → List (Str × D) → Prop
  | [], [] => True
  | (k, v) :: ps, (z, d) :: ds => k = V.str z ∧ Rp K mg F v d ∧ RpP K mg F ps ds
  | _, _ => False
theorem RpP.mono {K : PySem.W.Frag} {mg : Str → Option Value} {F F' : Hp} (s : Same F F') : ∀ {ps : List (V × V)} {ds : List (Str × D)}, RpP K mg F ps ds → RpP K mg F' ps ds
  | [], [], _ => True.intro
  | (_, _) :: _, (_, _) :: _, ⟨a, b, c⟩ => ⟨a, b.mono s, RpP.mono s c⟩
  | [], _ :: _, h => h.elim
  | _ :: _, [], h => h.elim
def CPs (G : Gd) (Γ : Gm) (ks : List (Option Expr)) (vs : List Expr) (m : Sl → R (List (Str × D))) : Prop := ∀ X, Γ.Ok G X → ∀ W, Takes X W → ∃ trs, (∀ pos, PPs X pos ks vs trs) ∧
  ∀ σ H Q, (∃ B F0 L F A, Rl G B F0 L F A σ H ∧ pG G W σ F H (m L) fun ds F' H' => ∀ ps, RpP G.K G.mg F' ps ds → Q ps H') → tPairs trs σ H Q
def mPNil : Sl → R (List (Str × D)) := fun _ => .ok []
def mPCons (z : Str) (m : Sl → R D) (r : Sl → R (List (Str × D))) : Sl → R (List (Str × D)) := fun L => (m L).bind fun d => (r L).bind fun ds => .ok ((z, d) :: ds)
theorem cps_nil : CPs G Γ [] [] mPNil := fun X ok W tk => ⟨[], fun _ => pps_nil, fun σ H Q h => by
  obtain ⟨B, F0, L, F, A, R, h⟩ := h
  exact h F H (Grow.refl R.sf) [] True.intro⟩
theorem cps_cons {z : Str} {j : Nat} {kp : Pos} {e : Expr} {ks : List (Option Expr)} {es : List Expr} {m : Sl → R D} {r : Sl → R (List (Str × D))} (he : CE G Γ e m) (hr : CPs G Γ ks es r) :
    CPs G Γ (some (.Constant (.str z) j kp) :: ks) (e :: es) (mPCons z m r) := fun X ok W tk => by
  obtain ⟨trs, p, q⟩ := hr X ok W tk
  refine ⟨(tE G W (mC (.str z)), tE G W m) :: trs, fun pos => pps_cons ((ce_str (G := G) (Γ := Γ)) X ok W tk) (he X ok W tk) (p pos), fun σ H Q h => ?_⟩
  obtain ⟨B, F0, L, F, A, R, h⟩ := h
  refine ⟨B, F0, L, F, A, R, fun F1 H1 g1 v rv => ?_⟩
  have R1 := R.gr g1
  have h1 := pG.mono g1 h
  refine ⟨B, F0, L, F1, A, R1, (pG.bind h1).imp R1 fun d F2 H2 s2 R2 g2 h2 u ru => ?_⟩
  refine q _ _ _ ⟨B, F0, L, F2, A, R2, (pG.bind h2).imp R2 fun ds F3 H3 s3 R3 g3 h3 ps rp => ?_⟩
  refine h3 F3 H3 (Grow.refl R3.sf) _ ⟨?_, ru.mono s3, rp⟩
  cases rv
  rfl
theorem rp_kvs {K : PySem.W.Frag} {mg : Str → Option Value} {F : Hp} : ∀ {ps : List (V × V)} {ds : List (Str × D)}, RpP K mg F ps ds → ∃ kvs : List (Key × V), ps = kvs.map (fun kv => (kV kv.1, kv.2)) ∧ kvs.map (·.1) = ds.map (fun p => (.inr p.1 : Key)) ∧ RpK K mg F kvs (ds.map fun p => (.inr p.1, p.2))
  | [], [], _ => ⟨[], rfl, rfl, .nil⟩
  | (_, v) :: ps, (z, d) :: ds, ⟨a, b, c⟩ => by
    obtain ⟨kvs, e1, e2, e3⟩ := rp_kvs c
    refine ⟨(.inr z, v) :: kvs, ?_, ?_, .cons b e3⟩
    · rw [a, e1]; rfl
    · rw [List.map_cons, List.map_cons, e2]
  | [], _ :: _, h => h.elim
  | _ :: _, [], h => h.elim
theorem mergeK_new : ∀ {more kvs : List (Key × V)}, ((kvs ++ more).map (·.1)).Nodup → mergeK kvs more = kvs ++ more
  | [], kvs, _ => by simp [mergeK]
  | (k, v) :: r, kvs, nd => by
    have nk : (kvs.any fun p => decide (p.1 = k)) = false := by
      rw [List.any_eq_false]
      intro p mp z
      rw [List.map_append, List.map_cons] at nd
      exact (List.nodup_append.mp nd).2.2 _ (List.mem_map_of_mem mp) _ List.mem_cons_self (of_decide_eq_true z)
    have ih := mergeK_new (more := r) (kvs := kvs ++ [(k, v)]) (by simpa using nd)
    show mergeK (putK kvs k v) r = _
    have : putK kvs k v = kvs ++ [(k, v)] := by
      unfold putK
      rw [if_neg (by rw [nk]; decide)]
    rw [this, ih]
    simp
theorem RpK_ow {tg : Tg} {K : PySem.W.Frag} {mg : Str → Option Value} {F H : Hp} : ∀ {kvs : List (Key × V)} {ds : List (Key × D)}, RpK K mg F kvs ds → OwK tg K mg F H kvs (ds.map fun p => (p.1, .v p.2)) []
  | _, _, .nil => .nil
  | _, _, .cons b t => .cons (A := []) (.v b) (RpK_ow t)
/-- {k: v, ..} -/
def mDisp (m : Sl → R (List (Str × D))) : Sl → R O := fun L => (m L).bind fun ds => if (ds.map (·.1)).Nodup ∧ ds.length ≤ 15 then .ok (.mk (ds.map fun p => (.inr p.1, .v p.2))) else .stuck
theorem co_disp {ks : List (Option Expr)} {vs : List Expr} {m : Sl → R (List (Str × D))} {pos : Pos} (hb : (ks.all (·.isSome) && decide (ks.length = vs.length) && decide (ks.length ≤ 15) && !ks.isEmpty) = true) (h : CPs G Γ ks vs m) : CO G Γ (.Dict ks vs pos) (mDisp m) := by
  obtain ⟨hb, b4⟩ := and2 hb
  obtain ⟨hb, b3⟩ := and2 hb
  obtain ⟨b1, b2⟩ := and2 hb
  intro X ok W tk
  obtain ⟨trs, p, q⟩ := h X ok W tk
  refine PE.imp (pe_disp (p pos) b1 (of_decide_eq_true b2) (fun e => by rw [e] at b4; cases b4) (of_decide_eq_true b3)) fun σ H Q h => ?_
  obtain ⟨B, F0, L, F, A, R, h⟩ := h
  intro a ha
  have g0 : Grow F H F (upd H a (.dK [])) := ⟨fun b u e => by rw [upd_ne (ne_of_none e ha)]; exact e, .refl _, fun b u e => by rw [upd_ne (ne_of_none (R.sf _ _ e) ha)]; exact R.sf _ _ e, fun _ e _ => e⟩
  have R0 := R.gr g0
  refine q _ _ _ ⟨B, F0, L, F, A, R0, ?_⟩
  unfold mDisp at h
  cases e0 : m L with
  | stuck => rw [e0] at h; exact h.elim
  | exc c => rw [e0] at h; exact pG.mono g0 (r := .exc c) (P := fun o F' H' => ∀ v C, Ow G.tg G.K G.mg F' H' v o C → C.Nodup → (∀ a ∈ C, F' a = none ∧ H a = none) → Q v H') h
  | ok ds =>
    rw [e0] at h
    intro F1 H1 g1 ps rp
    have h1 : pG G W σ F H (if (ds.map (·.1)).Nodup ∧ ds.length ≤ 15 then Eng.R.ok (O.mk (ds.map fun p => (.inr p.1, .v p.2))) else .stuck) fun o F' H' => ∀ v C, Ow G.tg G.K G.mg F' H' v o C → C.Nodup → (∀ a ∈ C, F' a = none ∧ H a = none) → Q v H' := h
    split at h1
    · rename_i hl
      obtain ⟨kvs, e1, e2, e3⟩ := rp_kvs rp
      have hH1 : H1 a = some (.dK []) := g1.sH _ _ upd_same
      have len : kvs.length = ds.length := by have := congrArg List.length e2; simpa using this
      have nd : (kvs.map (·.1)).Nodup := by
        rw [e2]
        have : ds.map (fun p => (.inr p.1 : Key)) = (ds.map (·.1)).map Sum.inr := by rw [List.map_map]; rfl
        rw [this]
        exact List.Pairwise.map _ (fun a b h z => h (by cases z; rfl)) hl.1
      refine ⟨hH1, kvs, e1, by omega, ?_⟩
      rw [mergeK_new (by simpa using nd), List.nil_append]
      have fa : F1 a = none := g1.hf a (R.sf.free ha) (nt_of upd_same fun xs z => by cases z)
      refine h1 F1 (upd H1 a (.dK kvs)) ⟨fun b u e => ?_, g1.sF, fun b u e => ?_, fun b e n => g1.hf b e (nt_mono g0.sH n)⟩ (.ref a) [a] (.mk upd_same (by have := RpK_ow (tg := G.tg) (H := upd H1 a (.dK kvs)) e3; rw [List.map_map] at this; exact this)) (by simp) (fun b m => by rw [List.mem_singleton.mp m]; exact ⟨fa, ha⟩)
      · rw [upd_ne (ne_of_none e ha)]; exact g1.sH _ _ (g0.sH _ _ e)
      · rw [upd_ne (ne_of_none e fa)]; exact g1.le _ _ e
    · exact h1.elim
end
end Eng
namespace Eng
open PySem PySem.Spec PyProof.Rows L2
/-- nothing is known of it -/
theorem css_stuck {G : Gd} {Γ : Gm} {s : List Stmt} : CSs G Γ s (fun _ => .stuck) := fun X ok W tk => ⟨fun pins s σ H Q I h => by
  obtain ⟨_, _, _, _, _, _, h⟩ := h
  exact h.elim⟩
end Eng
namespace Eng
open PySem PySem.Spec PyProof.Rows L2
/-- x * n: of numbers, or of a tuple and a number -/
def fMulR : D → D → Option D
  | .tup ds, y => fRep (.tup ds) y
  | x, y => fMul x y
theorem o_mulR {G : Gd} : Op2 G fMulR (binaryOp .Mult) := by
  intro X Γ ok pins s σ H x y v u Q I rx ry h
  obtain ⟨F, dx, dy, d, sf, hx, hy, e, h⟩ := h
  cases dx with
  | tup ds => exact o_rep X Γ ok pins s σ H x y v u Q I rx ry ⟨F, _, dy, d, sf, hx, hy, e, h⟩
  | int i => exact o_mul X Γ ok pins s σ H x y v u Q I rx ry ⟨F, _, dy, d, sf, hx, hy, e, h⟩
  | _ => cases e
end Eng

end
section
set_option Elab.async false
set_option linter.all false
set_option maxRecDepth 100000
set_option maxHeartbeats 4000000
/-! the engine, part 32: range with a step -/
namespace Eng
open PySem PySem.Spec PyProof.Rows L2
section
variable {G : Gd} {Γ : Gm}
def rngC (lo c : Int) (n : Nat) : List D := (List.range n).map fun (i : Nat) => .int (lo + (i : Int) * c)
theorem itD_rngC {F : Hp} {lo c : Int} {n : Nat} : ItD G (Itc lo c n) (rngC lo c n) F where
  go := fun i F' H' s s' hi => by show i < n; simpa [rngC] using hi
  st := fun i F' H' s s' hi => by show n ≤ i; simpa [rngC] using hi
  yl := fun i F' H' x H'' s s' hi y => by
    obtain ⟨rfl, rfl⟩ := y
    refine ⟨.int (lo + (i : Nat) * c), F', ?_, .refl s', .int _⟩
    have hi' : i < n := by simpa [rngC] using hi
    unfold rngC
    rw [List.getElem?_map, List.getElem?_range hi']; rfl
def stepN (i j c : Int) : Nat := if c = -1 then (i - j).toNat else if i < j then ((j - i - 1) / c + 1).toNat else 0
def rng3 : D → D → D → Option (List D)
  | .int i, .int j, .int c => if (-1000000000000 ≤ i ∧ i ≤ 1000000000000) ∧ (-1000000000000 ≤ j ∧ j ≤ 1000000000000) ∧ (c = -1 ∨ (1 ≤ c ∧ c ≤ 1000)) then some (rngC i c (stepN i j c)) else none
  | _, _, _ => none
theorem rgc_of {i j c : Int} (hi : -1000000000000 ≤ i ∧ i ≤ 1000000000000) (hj : -1000000000000 ≤ j ∧ j ≤ 1000000000000) (hc : c = -1 ∨ (1 ≤ c ∧ c ≤ 1000)) : RgC i j c (stepN i j c) := by
  rcases hc with rfl | ⟨h1, h2⟩
  · exact RgC.neg (by omega) (by omega) (by omega) (by omega)
  · have nc : ¬ c = -1 := by omega
    have rs : Builtin.Range.rangeSize i j c = (stepN i j c : Int) := by
      unfold Builtin.Range.rangeSize stepN
      rw [if_pos (by omega), if_neg nc]
      by_cases l : i < j
      · rw [if_pos l, if_pos l]
        have := Int.ediv_nonneg (a := j - i - 1) (b := c) (by omega) (by omega)
        omega
      · rw [if_neg l, if_neg l]; rfl
    refine ⟨by omega, by omega, ?_, rs⟩
    have b : Builtin.Range.rangeSize i j c ≤ 2000000000001 := by
      unfold Builtin.Range.rangeSize
      rw [if_pos (by omega)]
      by_cases l : i < j
      · rw [if_pos l]
        have := Int.ediv_le_self (a := j - i - 1) c (by omega)
        omega
      · rw [if_neg l]; omega
    unfold Builtin.Range.small
    generalize Builtin.Range.rangeSize i j c = r at b rs
    have r0 : 0 ≤ r := by omega
    simp only [Builtin.Range.rangeFitsLong, Bool.and_eq_true, Bool.or_eq_true, decide_eq_true_eq, beq_iff_eq, show c > 0 by omega, if_true]
    refine ⟨⟨⟨⟨?_, ?_⟩, ?_⟩, ?_⟩, .inr ?_⟩ <;> omega
def mRg3 (a b c : Sl → R D) : Sl → R (List D) := fun L => (a L).bind fun x => (b L).bind fun y => (c L).bind fun z => lift (rng3 x y z)
theorem ci_r3 (gr : Γ.Gr G) {tg a b c : Expr} {ma mb mc : Sl → R D} {p pos : Pos} (h : rngB Γ "range" [a, b, c] = true) (ha : CE G Γ a ma) (hb : CE G Γ b mb) (hc : CE G Γ c mc) : CI G Γ tg (.Call (.Name "range" p) [a, b, c] [] pos) (mRg3 ma mb mc) := by
  unfold rngB at h
  obtain ⟨h, h3⟩ := and2 h
  obtain ⟨h1, h2⟩ := and2 h
  simp at h3
  obtain ⟨n1, n2, n3⟩ := h3
  have hx := of_decide_eq_true h1
  refine fun X ok W tk => piImp (pi_range3 (gl_of ok.sc h2) (by rw [ok.mg]; exact gr.bl _ hx) (pa_cons (ha X ok W tk) (pa_cons (hb X ok W tk) (pa_cons (hc X ok W tk) pa_nil (star_cons n3)) (star_cons n2)) (star_cons n1)) (star_cons n1) (star_any (by simp [n2, n3]))) fun σ H Q h => ?_
  obtain ⟨B, F0, L, F, A, R, h⟩ := h
  refine ⟨B, F0, L, F, A, R, (pG.bind h).imp R fun d F1 H1 s1 R1 g1 h1 v rv => ?_⟩
  refine ⟨B, F0, L, F1, A, R1, (pG.bind h1).imp R1 fun d2 F2 H2 s2 R2 g2 h2 v2 rv2 => ?_⟩
  refine ⟨B, F0, L, F2, A, R2, (pG.bind h2).imp R2 fun d3 F3 H3 s3 R3 g3 h3 v3 rv3 => ?_⟩
  cases ed : rng3 d d2 d3 with
  | none => rw [ed] at h3; exact h3.elim
  | some es =>
    rw [ed] at h3
    unfold rng3 at ed
    split at ed
    · split at ed
      · rename_i hj
        cases ed; cases rv; cases rv2; cases rv3
        exact ⟨_, _, _, _, rfl, rgc_of hj.1 hj.2.1 hj.2.2, h3 F3 H3 (Grow.refl R3.sf) _ itD_rngC⟩
      · cases ed
    · cases ed
end
end Eng

end
section
set_option Elab.async false
set_option linter.all false
set_option maxRecDepth 100000
set_option maxHeartbeats 4000000
/-! the engine, part 33: str of a text, a text some times over -/
namespace Eng
open PySem PySem.Spec PyProof.Rows L2
section
variable {G : Gd} {Γ : Gm}
def fStrX : List D → Option D
  | [.str z] => some (.str z)
  | ds => fStr ds
theorem b_strX : Blt G fStrX (.type "str") := by
  intro X Γ ok cl pins s σ H xs us Q I r h
  obtain ⟨F, ds, d, sf, hr, e, h⟩ := h
  unfold fStrX at e
  split at e
  · cases e
    cases hr with
    | cons r1 r2 => cases r2; cases r1; exact SkE.call_str_str pins s σ H _ us Q I r ⟨_, rfl, h _ F H (.refl sf) (.str _)⟩
  · exact b_str X Γ ok cl pins s σ H xs us Q I r ⟨F, _, d, sf, hr, e, h⟩
theorem op_mulS {X : Cx} : OpR X (binaryOp .Mult) (fun x y H Q => ∃ i j, x = .str i ∧ y = .int j ∧ i.length ≤ 100 ∧ (-1000 ≤ j ∧ j ≤ 1000) ∧ Q (.str (Txt.mul i j)) H) := by
  intro pins s σ H x y v u Q I rx ry h
  obtain ⟨i, j, rfl, rfl, h1, h2, q⟩ := h
  obtain ⟨t, rfl⟩ := rx
  obtain ⟨t', rfl⟩ := ry
  have ok : MulOk i j := by
    refine ⟨?_, fun a b => ?_, fun a b => ?_⟩
    · simp only [Bool.or_eq_false_iff, decide_eq_false_iff_not]
      omega
    · have : (2 ^ 63 - 1) / j ≥ (2 ^ 63 - 1) / 1000 := by
        refine Int.le_ediv_of_mul_le (by omega) ?_
        have : (2 ^ 63 - 1 : Int) / 1000 = 9223372036854775 := by decide
        rw [this]
        have : (9223372036854775 : Int) * j ≤ 9223372036854775 * 1000 := Int.mul_le_mul_of_nonneg_left (by omega) (by omega)
        omega
      have e : (2 ^ 63 - 1 : Int) / 1000 = 9223372036854775 := by decide
      omega
    · have : i.length * j.toNat ≤ 100 * 1000 := Nat.mul_le_mul h1 (by omega)
      show decide (i.length * j.toNat > sizeLine) = false
      rw [sizeLine_eq]
      exact decide_eq_false (by omega)
  refine SB.mul ok fun t2 k => ⟨.str (Txt.mul i j), H, ?_, ⟨t2, rfl⟩, q⟩
  exact I.tok _
def fMulS : D → D → Option D
  | .str i, .int j => if i.length ≤ 100 ∧ -1000 ≤ j ∧ j ≤ 1000 then some (.str (Txt.mul i j)) else none
  | _, _ => none
theorem o_mulS : Op2 G fMulS (binaryOp .Mult) := by
  intro X Γ ok pins s σ H x y v u Q I rx ry h
  obtain ⟨F, dx, dy, d, sf, hx, hy, e, h⟩ := h
  unfold fMulS at e
  split at e
  · split at e
    · rename_i hm
      cases e; cases hx; cases hy
      exact op_mulS pins s σ H _ _ v u Q I rx ry ⟨_, _, rfl, rfl, hm.1, hm.2, h _ F H (.refl sf) (.str _)⟩
    · cases e
  · cases e
end
end Eng

end
section
set_option Elab.async false
set_option linter.all false
set_option maxRecDepth 100000
set_option maxHeartbeats 4000000
/-! the engine, part 34: P[k] = e of a place; for k, x in enumerate(ys) where x, an owned thing of ys, changes and stays in ys -/
namespace Eng
open PySem PySem.Spec PyProof.Rows L2
section
variable {G : Gd} {Γ : Gm} {W : WX} {B : Bd} {F0 F H : Hp} {L : Sl} {A : List Addr} {σ : L2.St}
/-! ### P[k] = d -/
def sSubP (mp : Sl → R Pq) (mk mv : Sl → R D) : Sl → RS := sBind mv fun d => sBind mp fun q => match q.o with
  | .ml os => sBind mk fun k L => match k with
    | .int n => (match ixN os.length n with | some j => .next (stPut L q.i q.p (.ml (os.set j (.v d)))) | none => .stuck)
    | _ => .stuck
  | _ => fun _ => .stuck
theorem cs_subP {r k v : Expr} {mp : Sl → R Pq} {mk mv : Sl → R D} {pos' pos : Pos} (hn : (noComp v && setOk v && plainIx k) = true) (hp : CQ G Γ r mp) (hk : CE G Γ k mk) (hv : CE G Γ v mv) : CS G Γ (.Assign [.Subscript r k pos'] v pos) (sSubP mp mk mv) := by
  obtain ⟨n1, n3⟩ := and2 hn
  obtain ⟨n1, n2⟩ := and2 n1
  refine fun X ok W tk => PS.imp (ps_asg (hv X ok W tk) (pg_sub (hp X ok W tk) (hk X ok W tk) set_list (as_sub n3 _)) (sw_sub n2 n1 _ _) (st_sub _) rfl) fun D σ H h => ?_
  obtain ⟨B, F0, L, F, A, R, h⟩ := h
  refine ⟨B, F0, L, F, A, R, (pS.first R h).imp R fun dv F1 H1 s1 R1 g1 h1 w rw => ?_⟩
  refine ⟨B, F0, L, F1, A, R1, (pS.first R1 h1).imp R1 fun q F2 H2 s2 R2 g2 h2 x z => ?_⟩
  obtain ⟨i, p, o⟩ := q
  dsimp only at h2 z
  cases o with
  | ml os =>
    dsimp only at h2
    refine ⟨B, F0, L, F2, A, R2, (pS.first R2 h2).imp R2 fun dk F3 H3 s3 R3 g3 h3 y ry => ?_⟩
    cases dk with
    | int n =>
      cases ej : ixN os.length n with
      | none => dsimp only at h3; rw [ej] at h3; exact h3.elim
      | some j =>
        dsimp only at h3
        rw [ej] at h3
        obtain ⟨Ac, t2, t3, t4, t5⟩ := (z.later s3 (R2.keep g3)).mut R3
        cases ry
        cases t2 with
        | @ml a us _ A1 hH ra =>
          obtain ⟨m1, m2⟩ := List.nodup_cons.mp t4
          have u1 := OwA.mono (H' := upd H3 a (.lst (us.set j w))) (.refl _) (fun x m => upd_ne (fun w => m1 (w ▸ m))) ra
          obtain ⟨A', w1, w2⟩ := OwA.set ((rw.mono s2).mono s3) j u1
          obtain ⟨A3, R4⟩ := t5 (upd H3 a (.lst (us.set j w))) (.ml (os.set j (.v dv))) (a :: A') rfl (fun x hx _ => upd_ne (fun w => hx (by rw [w]; exact List.mem_cons_self))) (.ml upd_same w1)
            (List.nodup_cons.mpr ⟨fun m => m1 (w2.subset m), w2.nodup m2⟩) (fun x m => .inl (by
              rcases List.mem_cons.mp m with rfl | m
              · exact List.mem_cons_self
              · exact List.mem_cons_of_mem _ (w2.subset m)))
          exact ⟨a, us, n, j, rfl, rfl, hH, by rw [ra.length]; exact ej, h3 _ _ ⟨F3, A3, .refl _, R4⟩⟩
    | _ => exact h3.elim
  | _ => exact h2.elim
/-! ### the loop -/
def isObj : O → Bool | .ml _ => true | .mk _ => true | .mq _ => true | .mi _ _ _ => true | _ => false
theorem Ow.objRef {tg : Tg} {K : PySem.W.Frag} {mg : Str → Option Value} {v : V} {o : O} (r : Ow tg K mg F H v o A) (h : isObj o = true) : ∃ a, v = .ref a := by
  cases r <;> first | exact ⟨_, rfl⟩ | cases h
def epGo (i kk j : Nat) (body : Sl → RS) : Nat → Nat → List O → Sl → RS
  | 0, _, os, L => .next (L.set i (some (.ml os)))
  | n + 1, c, os, L => match os[c]? with
    | some o => if isObj o = true ∧ okSet L kk = true ∧ okSet (L.set kk (some (.v (.int (c : Int))))) j = true then
        (match body ((L.set kk (some (.v (.int (c : Int))))).set j (some (.pin o))) with
        | .next L2 => (match L2[j]? with | some (some (.pin o')) => epGo i kk j body n (c + 1) (os.set c o') (L2.set j none) | _ => .stuck)
        | .cont L2 => (match L2[j]? with | some (some (.pin o')) => epGo i kk j body n (c + 1) (os.set c o') (L2.set j none) | _ => .stuck)
        | _ => .stuck) else .stuck
    | none => .stuck
def sForEP (i kk j : Nat) (body : Sl → RS) : Sl → RS := fun L => match L[i]? with
  | some (some (.ml os)) => if okSet L i = true then epGo i kk j body os.length 0 os (L.set i (some (.pin (.v .opq)))) else .stuck
  | _ => .stuck
theorem Rl.pins (R : Rl G B F0 L F A σ H) {P : List (Nat × Addr)} (h : ∀ q ∈ P, σ[q.1]? = some (some (.ref q.2)) ∧ isPin L q.1 = true) : Rl G ⟨B.h, P⟩ F0 L F A σ H := ⟨R.os, R.nd, R.sf, R.f0, R.sb, R.fb, R.fa, h⟩
theorem cs_forEP (gr : Γ.Gr G) {i j kk : Nat} {x y k : Str} {b : List Stmt} {body : Sl → RS} {p1 p2 p3 p4 p5 p6 pos : Pos} {nn : Nat} (hic : (varB Γ i x && Γ.cm && decide (("enumerate" : Str) ∈ Γ.X) && glB Γ.sc "enumerate") = true) (hj : stB Γ j y = true) (hk : stB Γ kk k = true) (hb : CSs G Γ b body) :
    CS G Γ (.For (.Tuple [.Name k p1, .Name y p2] nn p3) (.Call (.Name "enumerate" p4) [.Name x p5] [] p6) b [] pos) (sForEP i kk j body) := by
  obtain ⟨hic, hg⟩ := and2 hic
  obtain ⟨hic, hx⟩ := and2 hic
  obtain ⟨hi, hcm⟩ := and2 hic
  unfold varB at hi
  obtain ⟨h1, h4⟩ := and2 hi
  obtain ⟨h1, h3⟩ := and2 h1
  obtain ⟨h1, h2⟩ := and2 h1
  unfold stB at hj hk
  obtain ⟨k1, k3⟩ := and2 hj
  obtain ⟨k1, k2⟩ := and2 k1
  obtain ⟨l1, l3⟩ := and2 hk
  obtain ⟨l1, l2⟩ := and2 l1
  refine fun X ok W tk => PS.imp (ps_for ok.pass (ok.calm hcm) (pi_enum (gl_of ok.sc hg) (by rw [ok.mg]; exact gr.bl _ (of_decide_eq_true hx)) (pa_cons (pe_var (i := i) (by rw [ok.N]; exact of_decide_eq_true h1) (by rw [ok.sc]; exact vis_of h2) (by simpa using h3) (by simpa using h4)) pa_nil rfl) rfl)
    (pg_tup (ok.calm hcm) (pgs_cons (pg_name (i := kk) (by rw [ok.N]; exact ok.nd) (by rw [ok.N]; exact of_decide_eq_true l1) (by rw [ok.sc]; exact loc_of l2) (ok.fnl k l3)) (pgs_cons (pg_name (i := j) (by rw [ok.N]; exact ok.nd) (by rw [ok.N]; exact of_decide_eq_true k1) (by rw [ok.sc]; exact loc_of k2) (ok.fnl y k3)) pgs_nil rfl) rfl) rfl rfl) (hb X ok W tk) (noSet_of rfl _)) fun D σ H h => ?_
  obtain ⟨B, F0, L, F, A, R, h⟩ := h
  unfold sForEP at h
  split at h
  · rename_i os eo
    split at h
    · rename_i hok
      obtain ⟨v, Ai, A1, q1, q2, q3, R1, q4, q5⟩ := R.take eo hok
      cases q2 with
      | @ml l vs _ C hH ra =>
        obtain ⟨n1, n2⟩ := List.nodup_cons.mp q3
        have hlen : vs.length = os.length := ra.length
        have iL : i < L.length := (okSet_of hok).1
        have nI : ∀ q ∈ B.p, q.1 ≠ i := fun q m z => by
          have := (R.pn q m).2
          rw [z, (okSet_of hok).2] at this; cases this
        obtain ⟨A0, t1, t2, t3⟩ := R1.os.put (v := .ref l) (o := .pin (.v .opq)) (B := []) (by simpa using iL) (.pin (.v (.opq l)))
        have eL : (L.set i none).set i (some (.pin (.v .opq))) = L.set i (some (.pin (.v .opq))) := List.set_set _
        rw [eL, get_set q1] at t1
        have R0 : Rl G ⟨B.h, (i, l) :: B.p⟩ F0 (L.set i (some (.pin (.v .opq)))) F A0 σ H := ⟨t1, t3 R1.nd List.nodup_nil (fun _ m => nomatch m), R.sf, R.f0, R.sb, R.fb, fun a m => R1.fa a ((t2 a m).resolve_right fun m => nomatch m), fun q m => by
          rcases List.mem_cons.mp m with rfl | m
          · exact ⟨q1, by unfold isPin; rw [List.getElem?_set_self iL]⟩
          · have := R.pn q m
            exact ⟨this.1, by unfold isPin; rw [List.getElem?_set_ne (fun z => nI q m z.symm)]; exact this.2⟩⟩
        have fC0 : ∀ a ∈ l :: C, F a = none ∧ B.h a = none ∧ a ∉ A0 := fun a m => ⟨(R.fa a (q4 a m).1).1, (R.fa a (q4 a m).1).2, fun m' => (q4 a m).2 ((t2 a m').resolve_right fun m => nomatch m)⟩
        refine ⟨_, q1, l, vs, rfl, .inl (.inl hH), ?_⟩
        refine ⟨fun c m σ H => m = os.length - c ∧ c ≤ os.length ∧ ∃ oc Lc Fc Ac Cc, oc.length = os.length ∧ i < Lc.length ∧ Rl G ⟨B.h, (i, l) :: B.p⟩ F0 Lc Fc Ac σ H ∧ H l = some (.lst vs) ∧ OwA G.tg G.K G.mg Fc H vs oc Cc ∧ (l :: Cc).Nodup ∧ (∀ a ∈ l :: Cc, Fc a = none ∧ B.h a = none ∧ a ∉ Ac) ∧ pS G W B F0 Fc (epGo i kk j body (os.length - c) c oc Lc) D,
          ⟨_, rfl, Nat.zero_le _, os, _, F, A0, C, rfl, by simpa using iL, R0, hH, ra, q3, fC0, h⟩, fun c m σi Hi hW => ?_⟩
        obtain ⟨rfl, hc, oc, Li, Fi, Ai', Cc, ol, li, Ri, hl, ro, nC, fC, hp⟩ := hW
        have sq : SqL X.K Hi l vs := .inl (.inl hl)
        by_cases hlt : c < os.length
        · have hv : c < vs.length := by omega
          have he : os.length - c = (os.length - (c + 1)) + 1 := by omega
          rw [he] at hp
          unfold epGo at hp
          have eoc : oc[c]? = some oc[c] := List.getElem?_eq_getElem (by omega)
          rw [eoc] at hp
          dsimp only at hp
          split at hp
          · rename_i hoo
            obtain ⟨o1, o2, o3⟩ := hoo
            refine .inr ⟨⟨vs, _, sq, List.getElem?_eq_getElem hv⟩, fun σ' H' => c + 1 ≤ os.length ∧ ∃ oc Lc Fc Ac Cc, oc.length = os.length ∧ i < Lc.length ∧ Rl G ⟨B.h, (i, l) :: B.p⟩ F0 Lc Fc Ac σ' H' ∧ H' l = some (.lst vs) ∧ OwA G.tg G.K G.mg Fc H' vs oc Cc ∧ (l :: Cc).Nodup ∧ (∀ a ∈ l :: Cc, Fc a = none ∧ B.h a = none ∧ a ∉ Ac) ∧ pS G W B F0 Fc (epGo i kk j body (os.length - (c + 1)) (c + 1) oc Lc) D, fun σ' H' hn => ⟨os.length - (c + 1), by omega, rfl, hn⟩, fun x H' hy => ?_⟩
            obtain ⟨T, y0, rfl, hT, rfl, hy⟩ := hy
            have ex := hy vs sq
            have gT : Grow Fi Hi Fi (upd Hi T (.tup [.int (c : Nat), y0])) := ⟨fun b u e => by rw [upd_ne (ne_of_none e hT)]; exact e, .refl _, fun b u e => by rw [upd_ne (ne_of_none (Ri.sf _ _ e) hT)]; exact Ri.sf _ _ e, fun _ e _ => e⟩
            have RT := Ri.gr gT
            have hlT : (upd Hi T (.tup [.int (c : Nat), y0])) l = some (.lst vs) := gT.sH _ _ hl
            have roT : OwA G.tg G.K G.mg Fi (upd Hi T (.tup [.int (c : Nat), y0])) vs oc Cc := OwA.mono (.refl _) (fun a m => by
              obtain ⟨u, e, _⟩ := OwA.mut ro a m
              rw [e]; exact gT.sH _ _ e) ro
            generalize hHT : upd Hi T (.tup [.int (c : Nat), y0]) = HT at RT hlT roT
            have sqT : SqT X.K HT T [.int (c : Nat), y0] := by rw [← hHT]; exact .inl (.inl upd_same)
            obtain ⟨w, C1, Cm, C3, u1, u2, u3, u4⟩ := roT.nth eoc
            rw [ex] at u1; cases u1
            obtain ⟨a, ea⟩ := Ow.objRef u2 o1
            subst ea
            refine ⟨T, _, rfl, sqT, rfl, .int (c : Nat), [.ref a], rfl, .ref a, [], rfl, rfl, ?_⟩
            rw [u3] at nC fC
            obtain ⟨d1, d2⟩ := List.nodup_cons.mp nC
            obtain ⟨d3, d4, d5⟩ := List.nodup_append.mp d2
            obtain ⟨d6, d7, d8⟩ := List.nodup_append.mp d3
            have inF : ∀ b, b ∈ l :: (C1 ++ C3) → b ∈ l :: (C1 ++ Cm ++ C3) := fun b m => by
              rcases List.mem_cons.mp m with rfl | m
              · exact List.mem_cons_self
              · rcases List.mem_append.mp m with m | m
                · exact List.mem_cons_of_mem _ (List.mem_append_left _ (List.mem_append_left _ m))
                · exact List.mem_cons_of_mem _ (List.mem_append_right _ m)
            have inM : ∀ b, b ∈ Cm → b ∈ l :: (C1 ++ Cm ++ C3) := fun b m => List.mem_cons_of_mem _ (List.mem_append_left _ (List.mem_append_right _ m))
            have sepM : ∀ b, b ∈ Cm → b ∉ l :: (C1 ++ C3) := fun b m m' => by
              rcases List.mem_cons.mp m' with rfl | m'
              · exact d1 (List.mem_append_left _ (List.mem_append_right _ m))
              · rcases List.mem_append.mp m' with m' | m'
                · exact d8 b m' b m rfl
                · exact d5 b (List.mem_append_right _ m) b m' rfl
            obtain ⟨A2, e1, e2, e3⟩ := RT.os.put (v := .int (c : Nat)) (o := .v (.int (c : Int))) (B := []) (okSet_of o2).1 (.v (.int _))
            obtain ⟨A3, f1, f2, f3⟩ := e1.put (v := .ref a) (o := .pin oc[c]) (okSet_of o3).1 (.pin u2)
            have sub2 : ∀ b ∈ A2, b ∈ Ai' := fun b m => (e2 b m).resolve_right fun m => nomatch m
            have pn2 := pn_set (x := some (.v (.int (c : Int)))) (y := some (.int (c : Nat))) (okSet_of o2).2 RT.pn
            have pn3 := pn_set (x := some (.pin oc[c])) (y := some (.ref a)) (okSet_of o3).2 pn2
            have R3 : Rl G ⟨B.h, (i, l) :: B.p⟩ F0 ((Li.set kk (some (.v (.int (c : Int))))).set j (some (.pin oc[c]))) Fi A3 ((σi.set kk (some (.int (c : Nat)))).set j (some (.ref a))) HT :=
              ⟨f1, f3 (e3 RT.nd List.nodup_nil fun _ m => nomatch m) d7 (fun b m m' => (fC b (inM b m)).2.2 (sub2 b m')), RT.sf, RT.f0, RT.sb, RT.fb, fun b m => (f2 b m).elim (fun m => RT.fa b (sub2 b m)) (fun m => ⟨(fC b (inM b m)).1, (fC b (inM b m)).2.1⟩), pn3⟩
            have frA : ∀ b ∈ l :: (C1 ++ C3), Fi b = none ∧ B.h b = none ∧ b ∉ A3 := fun b m => ⟨(fC b (inF b m)).1, (fC b (inF b m)).2.1, fun m' => (f2 b m').elim (fun m'' => (fC b (inF b m)).2.2 (sub2 b m'')) fun m'' => sepM b m'' m⟩
            have R4 := R3.more (C := l :: (C1 ++ C3)) frA
            have tr : ∀ b ∈ l :: (C1 ++ C3), ∃ u, HT b = some u ∧ ∀ xs, u ≠ .tup xs := fun b m => by
              rcases List.mem_cons.mp m with rfl | m
              · exact ⟨_, hlT, fun xs z => by cases z⟩
              · have mC : b ∈ Cc := by
                  rw [u3]
                  rcases List.mem_append.mp m with m | m
                  · exact List.mem_append_left _ (List.mem_append_left _ m)
                  · exact List.mem_append_right _ m
                obtain ⟨u, e, mu⟩ := OwA.mut roT b mC
                exact ⟨u, e, fun xs z => by rw [z] at mu; exact mu⟩
            have lj : j < (Li.set kk (some (.v (.int (c : Int))))).length := (okSet_of o3).1
            have R4' := R4.pins (P := (j, a) :: (i, l) :: B.p) (fun q m => by
              rcases List.mem_cons.mp m with rfl | m
              · refine ⟨?_, ?_⟩
                · have : j < (σi.set kk (some (V.int (c : Nat)))).length := by rw [e1.len]; exact lj
                  exact List.getElem?_set_self this
                · unfold isPin; rw [List.getElem?_set_self lj]
              · exact R4.pn q m)
            have nJ : ∀ q ∈ (i, l) :: B.p, q.1 ≠ j := fun q m z => by
              have := (pn2 q m).2
              rw [z, (okSet_of o3).2] at this; cases this
            have at2 : ∀ b ∈ l :: (C1 ++ C3), (more ⟨B.h, (i, l) :: B.p⟩ HT (l :: (C1 ++ C3))).h b = HT b := fun b m => by unfold more; dsimp only; rw [if_pos m]
            have back : ∀ (M2 : Sl) (σ3 : L2.St) (H3 : Hp) (o' : O), M2[j]? = some (some (.pin o')) → Rel G ⟨(more ⟨B.h, (i, l) :: B.p⟩ HT (l :: (C1 ++ C3))).h, (j, a) :: (i, l) :: B.p⟩ F0 Fi M2 σ3 H3 → pS G W B F0 Fi (epGo i kk j body (os.length - (c + 1)) (c + 1) (oc.set c o') (M2.set j none)) D →
                c + 1 ≤ os.length ∧ ∃ oc Lc Fc Ac Cc, oc.length = os.length ∧ i < Lc.length ∧ Rl G ⟨B.h, (i, l) :: B.p⟩ F0 Lc Fc Ac σ3 H3 ∧ H3 l = some (.lst vs) ∧ OwA G.tg G.K G.mg Fc H3 vs oc Cc ∧ (l :: Cc).Nodup ∧ (∀ a ∈ l :: Cc, Fc a = none ∧ B.h a = none ∧ a ∉ Ac) ∧ pS G W B F0 Fc (epGo i kk j body (os.length - (c + 1)) (c + 1) oc Lc) D := by
              rintro M2 σ3 H3 o' eJ ⟨F3, A4, s3, R5⟩ hp'
              have pj := (R5.pn (j, a) List.mem_cons_self).1
              have pI := R5.pn (i, l) (List.mem_cons_of_mem _ List.mem_cons_self)
              obtain ⟨v', B1, Bi, B2, z1, z2, z3, z4⟩ := R5.os.take eJ
              rw [show σ3[j]? = some (some (.ref a)) from pj] at z1; cases z1
              cases z2 with
              | pin r =>
                have nd4 := R5.nd
                rw [z3] at nd4
                obtain ⟨g1, g2, g3⟩ := List.nodup_append.mp nd4
                obtain ⟨g4, g5, g6⟩ := List.nodup_append.mp g1
                have inA : ∀ b, b ∈ B1 ++ B2 → b ∈ A4 := fun b m => by
                  rw [z3]
                  rcases List.mem_append.mp m with m | m
                  · exact List.mem_append_left _ (List.mem_append_left _ m)
                  · exact List.mem_append_right _ m
                have inI : ∀ b, b ∈ Bi → b ∈ A4 := fun b m => by rw [z3]; exact List.mem_append_left _ (List.mem_append_right _ m)
                have same3 : ∀ b ∈ l :: (C1 ++ C3), H3 b = HT b := fun b m => by
                  obtain ⟨u, e, _⟩ := tr b m
                  rw [e]
                  exact R5.sb b u (by rw [show (⟨(more ⟨B.h, (i, l) :: B.p⟩ HT (l :: (C1 ++ C3))).h, (j, a) :: (i, l) :: B.p⟩ : Bd).h b = HT b from at2 b m]; exact e)
                have outF : ∀ b ∈ A4, b ∉ l :: (C1 ++ C3) := fun b m m' => by
                  obtain ⟨u, e, _⟩ := tr b m'
                  have := (R5.fa b m).2
                  rw [show (⟨(more ⟨B.h, (i, l) :: B.p⟩ HT (l :: (C1 ++ C3))).h, (j, a) :: (i, l) :: B.p⟩ : Bd).h b = HT b from at2 b m', e] at this; cases this
                have nOw := u4 F3 H3 o' Bi s3 (fun b m => same3 b (List.mem_cons_of_mem _ (List.mem_append.mpr m))) r
                have R6 : Rl G (more ⟨B.h, (i, l) :: B.p⟩ HT (l :: (C1 ++ C3))) F0 (M2.set j none) F3 (B1 ++ B2) σ3 H3 :=
                  ⟨z4, List.nodup_append.mpr ⟨g4, g2, fun x hx y hy e => g3 x (List.mem_append_left _ hx) y hy e⟩, R5.sf, R5.f0, R5.sb, R5.fb, fun b m => R5.fa b (inA b m), fun q m => by
                    have := R5.pn q (List.mem_cons_of_mem _ m)
                    exact ⟨this.1, by unfold isPin; rw [List.getElem?_set_ne (fun z => nJ q m z.symm)]; exact this.2⟩⟩
                have R7 := R6.less (fun b m => (frA b m).2.1) (fun b m => (tr b m).imp fun _ h => h.1)
                have li2 : i < M2.length := by
                  have := pI.2
                  unfold isPin at this
                  rcases Nat.lt_or_ge i M2.length with g | g
                  · exact g
                  · rw [List.getElem?_eq_none g] at this; cases this
                refine ⟨hlt, oc.set c o', M2.set j none, F3, B1 ++ B2, C1 ++ Bi ++ C3, by rw [List.length_set]; exact ol, by rw [List.length_set]; exact li2, R7, by rw [same3 l List.mem_cons_self]; exact hlT, nOw, ?_, fun b m => ?_, pS.mono s3 hp'⟩
                · refine List.nodup_cons.mpr ⟨fun m => ?_, List.nodup_append.mpr ⟨List.nodup_append.mpr ⟨d6, g5, fun x hx y hy e => outF y (inI y hy) (e ▸ List.mem_cons_of_mem _ (List.mem_append_left _ hx))⟩, d4, fun x hx y hy e => ?_⟩⟩
                  · rcases List.mem_append.mp m with m | m
                    · rcases List.mem_append.mp m with m | m
                      · exact d1 (List.mem_append_left _ (List.mem_append_left _ m))
                      · exact outF l (inI l m) List.mem_cons_self
                    · exact d1 (List.mem_append_right _ m)
                  · rcases List.mem_append.mp hx with hx | hx
                    · exact d5 x (List.mem_append_left _ hx) y hy e
                    · exact outF x (inI x hx) (e ▸ List.mem_cons_of_mem _ (List.mem_append_right _ hy))
                · by_cases mf : b ∈ l :: (C1 ++ C3)
                  · obtain ⟨u, e, nt⟩ := tr b mf
                    refine ⟨R5.fb b ?_ ?_, (frA b mf).2.1, fun m' => outF b (inA b m') mf⟩
                    · cases e0 : F0 b with
                      | none => rfl
                      | some w => have := RT.f0 _ _ e0; rw [(frA b mf).1] at this; cases this
                    · exact nt_of (by rw [show (⟨(more ⟨B.h, (i, l) :: B.p⟩ HT (l :: (C1 ++ C3))).h, (j, a) :: (i, l) :: B.p⟩ : Bd).h b = HT b from at2 b mf]; exact e) nt
                  · have mi : b ∈ Bi := by
                      rcases List.mem_cons.mp m with rfl | m
                      · exact absurd List.mem_cons_self mf
                      · rcases List.mem_append.mp m with m | m
                        · rcases List.mem_append.mp m with m | m
                          · exact absurd (List.mem_cons_of_mem _ (List.mem_append_left _ m)) mf
                          · exact m
                        · exact absurd (List.mem_cons_of_mem _ (List.mem_append_right _ m)) mf
                    have fa := R5.fa b (inI b mi)
                    refine ⟨fa.1, ?_, fun m' => ?_⟩
                    · have h2 := fa.2
                      unfold more at h2
                      dsimp only at h2
                      rw [if_neg mf] at h2
                      exact h2
                    · rcases List.mem_append.mp m' with m' | m'
                      · exact g6 b m' b mi rfl
                      · exact g3 b (List.mem_append_right _ mi) b m' rfl
            refine ⟨_, F0, _, Fi, A3, R4', ?_⟩
            cases eb : body ((Li.set kk (some (.v (.int (c : Int))))).set j (some (.pin oc[c]))) with
            | next M2 =>
              rw [eb] at hp
              dsimp only at hp
              split at hp
              · rename_i o' eJ
                exact fun σ3 H3 r => back M2 σ3 H3 o' eJ r hp
              · exact hp.elim
            | cont M2 =>
              rw [eb] at hp
              dsimp only at hp
              split at hp
              · rename_i o' eJ
                exact fun σ3 H3 r => back M2 σ3 H3 o' eJ r hp
              · exact hp.elim
            | brk M2 => rw [eb] at hp; exact hp.elim
            | ret o M2 => rw [eb] at hp; exact hp.elim
            | exc c M2 => rw [eb] at hp; exact hp.elim
            | stuck => rw [eb] at hp; exact hp.elim
          · exact hp.elim
        · have hn : c = os.length := by omega
          have he : os.length - c = 0 := by omega
          rw [he] at hp
          unfold epGo at hp
          have pin := Ri.pn (i, l) List.mem_cons_self
          refine .inl ⟨⟨vs, sq, by omega⟩, hp σi Hi ?_⟩
          obtain ⟨A5, e1, e2, e3⟩ := Ri.os.put (v := .ref l) (o := .ml oc) (B := l :: Cc) li (.ml hl ro)
          rw [get_set pin.1] at e1
          exact ⟨Fi, A5, .refl _, e1, e3 Ri.nd nC (fun a m => (fC a m).2.2), Ri.sf, Ri.f0, Ri.sb, Ri.fb, fun a m => (e2 a m).elim (Ri.fa a) (fun m => ⟨(fC a m).1, (fC a m).2.1⟩), fun q m => by
            have := Ri.pn q (List.mem_cons_of_mem _ m)
            exact ⟨this.1, by unfold isPin; rw [List.getElem?_set_ne (fun z => nI q m z.symm)]; exact this.2⟩⟩
    · exact h.elim
  · exact h.elim
end
end Eng

end
section
set_option Elab.async false
set_option linter.all false
set_option maxRecDepth 100000
set_option maxHeartbeats 4000000
/-! the engine, part 35: a comprehension of owned things -/
namespace Eng
open PySem PySem.Spec PyProof.Rows L2
section
variable {G : Gd} {Γ : Gm} {W : WX} {B : Bd} {F0 F H : Hp} {L : Sl} {A : List Addr} {σ : L2.St}
def lcGoO (tg : D → Sl → Option Sl) (tst : Sl → R Bool) (el : Sl → R O) (L : Sl) : List D → R (List O)
  | [] => .ok []
  | x :: xs => (lift (tg x L)).bind fun L' => (tst L').bind fun b => if b = true then (el L').bind fun d => (lcGoO tg tst el L xs).bind fun ds => .ok (d :: ds) else lcGoO tg tst el L xs
def mLcO (it : Sl → R (List D)) (vs : List Nat) (tg : D → Sl → Option Sl) (tst : Sl → R Bool) (el : Sl → R O) : Sl → R O := fun L => (it L).bind fun ds =>
  if ds.length ≤ sizeLine ∧ okW L vs = true then (match lcGoO tg tst el (wipeL L vs) ds with | .ok es => .ok (.ml es) | _ => .stuck) else .stuck
/-- the reading of a comprehension -/
theorem lc_readO {W : WX} {Q : VK} {it : Sl → R (List D)} {vs ws : List Nat} {tg : D → Sl → Option Sl} {tst : Sl → R Bool} {el : Sl → R O} (hsub : ∀ i ∈ ws, i ∈ vs) (h : tO G W (mLcO it vs tg tst el) σ H Q) :
    tLc (tI G W it) (gD G ws tg) (tT G W0 tst) (tO G W0 el) vs σ H Q := by
  obtain ⟨B, F0, L, F, A, R, h⟩ := h
  refine ⟨B, F0, L, F, A, R, (pG.bind h).imp R fun ds F1 H1 s1 R1 g1 h1 J iJ Dd hD => ?_⟩
  split at h1
  · rename_i hsz
    cases hgo : lcGoO tg tst el (wipeL L vs) ds with
    | exc c => rw [hgo] at h1; exact h1.elim
    | stuck => rw [hgo] at h1; exact h1.elim
    | ok es =>
      rw [hgo] at h1
      refine ⟨fun i m Hc => m = ds.length - i ∧ i ≤ ds.length ∧ ∃ Fi acc done rest Ca, Grow F1 H1 Fi Hc ∧ Fi Dd = none ∧ Hc Dd = some (.lst acc) ∧ OwA G.tg G.K G.mg Fi Hc acc done Ca ∧ (Dd :: Ca).Nodup ∧ (∀ a ∈ Ca, Fi a = none ∧ H a = none) ∧ done.length ≤ i ∧ lcGoO tg tst el (wipeL L vs) (ds.drop i) = .ok rest ∧ done ++ rest = es, ⟨ds.length, rfl, Nat.zero_le _, F1, [], [], es, [], ⟨?_, .refl _, ?_, fun _ e _ => e⟩, R1.sf.free hD, upd_same, .nil, by simp, (fun _ m => by cases m), Nat.le_refl _, hgo, rfl⟩, fun i m Hc hW => ?_⟩
      · exact fun a u e => by rw [upd_ne (ne_of_none e hD)]; exact e
      · exact fun a u e => by rw [upd_ne (ne_of_none (R1.sf _ _ e) hD)]; exact R1.sf _ _ e
      · obtain ⟨rfl, hi, Fi, acc, done, rest, Ca, g, fD, eD, rac, nCa, fCa, hdl, hgo2, hes⟩ := hW
        by_cases hlt : i < ds.length
        · refine .inr ⟨iJ.go i Fi Hc g.sF g.le hlt, fun H' => (fun i m Hc => m = ds.length - i ∧ i ≤ ds.length ∧ ∃ Fi acc done rest Ca, Grow F1 H1 Fi Hc ∧ Fi Dd = none ∧ Hc Dd = some (.lst acc) ∧ OwA G.tg G.K G.mg Fi Hc acc done Ca ∧ (Dd :: Ca).Nodup ∧ (∀ a ∈ Ca, Fi a = none ∧ H a = none) ∧ done.length ≤ i ∧ lcGoO tg tst el (wipeL L vs) (ds.drop i) = .ok rest ∧ done ++ rest = es) (i + 1) (ds.length - (i + 1)) H', fun H' hn => ⟨_, by omega, hn⟩, fun x H' hy => ?_⟩
          obtain ⟨d, F2, ed, g2, rx⟩ := iJ.yl i Fi Hc x H' g.sF g.le hlt hy
          have gt := g.trans g2
          have f2D : F2 Dd = none := g2.hf Dd fD (nt_of eD fun _ z => nomatch z)
          have e2D : H' Dd = some (.lst acc) := g2.sH _ _ eD
          obtain ⟨A', hA', Rw⟩ := (R1.gr gt).wipe vs hsz.2
          rw [List.drop_eq_getElem_cons hlt] at hgo2
          have ed' : ds[i] = d := by rw [List.getElem?_eq_getElem hlt] at ed; exact Option.some.inj ed
          rw [ed'] at hgo2
          unfold lcGoO at hgo2
          obtain ⟨L', e1, hgo3⟩ := rbind_ok hgo2
          obtain ⟨b, e2, hgo4⟩ := rbind_ok hgo3
          refine ⟨B, F0, _, F2, A', d, Rw, rx, L', lift_ok e1, fun σ' A2 out s2 R2 => ⟨?_, ?_⟩⟩
          · rw [wipe_out out hsub, wipe_wipe]
          · refine ⟨B, F0, L', F2, A2, R2, ?_⟩
            rw [e2]
            intro F3 H3 g3
            have R3 := R2.gr g3
            have f3D : F3 Dd = none := g3.hf Dd f2D (nt_of e2D fun _ z => nomatch z)
            have e3D : H3 Dd = some (.lst acc) := g3.sH _ _ e2D
            cases b with
            | true =>
              rw [if_pos rfl] at hgo4
              obtain ⟨y, e4, hgo5⟩ := rbind_ok hgo4
              obtain ⟨rest', e5, e6⟩ := rbind_ok hgo5
              cases e6
              refine iteT ⟨B, F0, L', F3, A2, R3, ?_⟩
              rw [e4]
              intro F4 H4 g4 v C ow nC fC
              have f4D : F4 Dd = none := g4.hf Dd f3D (nt_of e3D fun _ z => nomatch z)
              have e4D : H4 Dd = some (.lst acc) := g4.sH _ _ e3D
              have trk : ∀ a ∈ Ca, ∃ u, Hc a = some u ∧ MutO u := fun a m => OwA.mut rac a m
              have k4 : ∀ a ∈ Ca, H4 a = Hc a := fun a m => by
                obtain ⟨u, e, _⟩ := trk a m
                rw [e]; exact g4.sH _ _ (g3.sH _ _ (g2.sH _ _ e))
              obtain ⟨nD, nA⟩ := List.nodup_cons.mp nCa
              have cD : ∀ a ∈ C, a ≠ Dd := fun a m z => by
                have := (fC a m).2
                rw [z, e3D] at this; cases this
              have cA : ∀ a ∈ C, a ∉ Ca := fun a m m' => by
                obtain ⟨u, e, _⟩ := trk a m'
                have := g3.sH _ _ (g2.sH _ _ e)
                rw [(fC a m).2] at this; cases this
              refine ⟨acc, e4D, ?_, rfl, hlt, F4, acc ++ [v], done ++ [y], rest', Ca ++ (C ++ []), ⟨?_, (gt.sF.trans g3.sF).trans g4.sF, ?_, ?_⟩, f4D, upd_same, OwA.append (OwA.mono ((g2.sF.trans g3.sF).trans g4.sF) (fun a m => (upd_ne (fun (z : a = Dd) => nD (z ▸ m))).trans (k4 a m)) rac) (.cons (Ow.mono (.refl _) (fun a m => upd_ne (cD a m)) ow) .nil), ?_, ?_, by rw [List.length_append]; show done.length + 1 ≤ i + 1; omega, e5, by rw [← hes]; simp⟩
              · rw [rac.length]; omega
              · exact fun a u e => by rw [upd_ne (ne_of_none e hD)]; exact g4.sH _ _ (g3.sH _ _ (gt.sH _ _ e))
              · exact fun a u e => by rw [upd_ne (ne_of_none e f4D)]; exact g4.le _ _ e
              · exact fun a z n => ((gt.trans g3).trans g4).hf a z n
              · rw [List.append_nil]
                refine List.nodup_cons.mpr ⟨fun m => ?_, List.nodup_append.mpr ⟨nA, nC, fun x hx y hy z => cA y hy (z ▸ hx)⟩⟩
                rcases List.mem_append.mp m with m | m
                · exact nD m
                · exact cD Dd m rfl
              · intro a m
                rw [List.append_nil] at m
                rcases List.mem_append.mp m with m | m
                · obtain ⟨u, e, mu⟩ := trk a m
                  exact ⟨((g2.trans g3).trans g4).hf a (fCa a m).1 (nt_of e fun xs z => by rw [z] at mu; exact mu), (fCa a m).2⟩
                · refine ⟨(fC a m).1, ?_⟩
                  cases e0 : H a with
                  | none => rfl
                  | some u =>
                    have := g3.sH _ _ (gt.sH _ _ (g1.sH _ _ e0))
                    rw [(fC a m).2] at this; cases this
            | false =>
              rw [if_neg Bool.false_ne_true] at hgo4
              exact iteF ⟨rfl, hlt, F3, acc, done, rest, Ca, gt.trans g3, f3D, e3D, OwA.mono (g2.sF.trans g3.sF) (fun a m => by
                obtain ⟨u, e, _⟩ := OwA.mut rac a m
                rw [e]; exact g3.sH _ _ (g2.sH _ _ e)) rac, nCa, fun a m => by
                obtain ⟨u, e, mu⟩ := OwA.mut rac a m
                exact ⟨(g2.trans g3).hf a (fCa a m).1 (nt_of e fun xs z => by rw [z] at mu; exact mu), (fCa a m).2⟩, by omega, hgo4, hes⟩
        · have hn : ds.length ≤ i := by omega
          refine .inl ⟨iJ.st i Fi Hc g.sF g.le hn, ?_⟩
          rw [List.drop_eq_nil_of_le hn] at hgo2
          cases hgo2
          rw [List.append_nil] at hes
          subst hes
          exact h1 Fi Hc g (.ref Dd) (Dd :: Ca) (.ml eD rac) nCa fun a m => by
            rcases List.mem_cons.mp m with rfl | m
            · exact ⟨fD, g1.sH.free hD⟩
            · exact fCa a m
  · exact h1.elim
theorem co_lcO {elt tg iter : Expr} {ifs : List Expr} {scope : Scope} {own : List (Str × Nat)} {ws : List Nat} {pos : Pos} {it : Sl → R (List D)} {gm : D → Sl → Option Sl} {tst : Sl → R Bool} {el : Sl → R O}
    (hi : CI G Γ tg iter it) (hb : blkC Γ.N Γ.sc scope own = true) (hsub : ∀ i ∈ ws, i ∈ own.map (·.2)) (hg : CG G (Γ.blk scope) tg ws gm) (ht : CTs G (Γ.blk scope) ifs tst) (he : CO G (Γ.blk scope) elt el) (hs : (noSet iter && Γ.cm) = true) :
    CO G Γ (.ListComp elt [⟨tg, iter, ifs, 0⟩] scope pos) (mLcO it (own.map (·.2)) gm tst el) :=
  fun X ok W tk => PE.imp (pe_lc (ok.calm (by rw [Bool.and_eq_true] at hs; exact hs.2)) (by rw [ok.N]; exact ok.nd) (hi X ok W tk) (by rw [ok.N, ok.sc]; exact blkOk_by hb) (fun s H C cl fp => hg _ (ok.blk (blkOk_by hb).kind s H C cl fp)) (fun s H C cl fp => ht _ (ok.blk (blkOk_by hb).kind s H C cl fp) W0 takes0)
    (fun s H C cl fp => he _ (ok.blk (blkOk_by hb).kind s H C cl fp) W0 takes0) (noSet_of (by rw [Bool.and_eq_true] at hs; exact hs.1) _)) fun σ H Q h => lc_readO hsub h
theorem cs_lcOO {elt tg iter : Expr} {ifs : List Expr} {scope : Scope} {own : List (Str × Nat)} {ws : List Nat} {p pos spos : Pos} {it : Sl → R (List D)} {gm : D → Sl → Option Sl} {tst : Sl → R Bool} {el : Sl → R O} {i : Nat} {y : Str}
    (hs : stB Γ i y = true) (hsw : swapB Γ.sc y p (.ListComp elt [⟨tg, iter, ifs, 0⟩] scope pos) = true)
    (hi : CI G Γ tg iter it) (hb : blkC Γ.N Γ.sc scope own = true) (hsub : ∀ i ∈ ws, i ∈ own.map (·.2)) (hg : CG G (Γ.blk scope) tg ws gm) (ht : CTs G (Γ.blk scope) ifs tst) (he : CO G (Γ.blk scope) elt el) (hn : (noSet iter && Γ.cm) = true) :
    CS G Γ (.Assign [.Name y p] (.ListComp elt [⟨tg, iter, ifs, 0⟩] scope pos) spos) (sSetO i (mLcO it (own.map (·.2)) gm tst el)) := by
  unfold stB at hs
  have hN := of_decide_eq_true (and2 (and2 hs).1).1
  unfold swapB at hsw
  simp only [Bool.and_eq_true, Bool.not_eq_true'] at hsw
  obtain ⟨⟨h1, h2⟩, h3⟩ := hsw
  have hl := lookLocal h1
  exact fun X ok W tk => PS.imp (ps_setLc (ok.calm (by rw [Bool.and_eq_true] at hn; exact hn.2)) (by rw [ok.N]; exact ok.nd) (by rw [ok.N]; exact hN) (by rw [ok.sc]; exact hl) (sw_true ok.kind (by rw [ok.sc]; exact hl) h2 h3) (hi X ok W tk) (by rw [ok.N, ok.sc]; exact blkOk_by hb) (fun s H C cl fp => hg _ (ok.blk (blkOk_by hb).kind s H C cl fp)) (fun s H C cl fp => ht _ (ok.blk (blkOk_by hb).kind s H C cl fp) W0 takes0)
    (fun s H C cl fp => he _ (ok.blk (blkOk_by hb).kind s H C cl fp) W0 takes0) (noSet_of (by rw [Bool.and_eq_true] at hn; exact hn.1) _)) fun D σ H h => lc_readO hsub (set_endO h)
end
end Eng

end
section
set_option Elab.async false
set_option linter.all false
set_option maxRecDepth 100000
set_option maxHeartbeats 4000000
/-! the engine, part 36: enumerate of a tuple -/
namespace Eng
open PySem PySem.Spec PyProof.Rows L2
open Sem (wp)
set_option maxHeartbeats 1000000 in
theorem meets_enum1 {v : Value} {o : Obj} {H : Heap → Prop} (B : Begins v o H) :
    Meets (Builtin.«enumerate.__new__» ⟨[.type "enumerate", v], []⟩) (fun _ R s => H s.heap ∧
      R (.ok (.ret (.ref (s.heap.push o).objs.size))) { s with heap := (s.heap.push o).push { cls := .type "enumerate", data := .fields #[.none, .bool false, .ref s.heap.objs.size, rawInt 0, .none, .none] } }) :=
  .of_wp fun prog w A R s h => by
    obtain ⟨hp, g, d, tk, os⟩ := s; obtain ⟨h1, h⟩ := h
    have hsub := sub_enumerate
    have q1 : ∀ {A' : Around} {E : Value → Shared → Prop} {Q : Value → Shared → Prop}, Q (.ref hp.objs.size) ⟨hp.push o, g, d, tk, os⟩ → wpAny (model prog w) A' (pyIter v) Q E ⟨hp, g, d, tk, os⟩ :=
      fun q => B.iter prog w _ _ ⟨hp, g, d, tk, os⟩ _ h1 q
    wp_walk using q1
    refine wpAny_stack_any fun st => wpAny_pure ?_
    split
    · rename_i c _ _ _ _ _
      cases (c == Value.type "enumerate")
      · wp_walk using q1
        exact ⟨_, rfl, h⟩
      · wp_walk using q1
        exact ⟨_, rfl, h⟩
    · wp_walk using q1
      exact ⟨_, rfl, h⟩
section
variable {prog : Program} {w : World} {A : Around} {E : Value → Shared → Prop} {s : Shared}
theorem call_enum1 {v : Value} {o : Obj} {H : Heap → Prop} {Q : Value → Shared → Prop} (B : Begins v o H) (h1 : H s.heap)
    (h : ∀ h', IsEnum h' (s.heap.objs.size + 1) s.heap.objs.size 0 .none → h'.get? s.heap.objs.size = some o → h'.objs.size = s.heap.objs.size + 2 →
      (∀ b o, s.heap.get? b = some o → h'.get? b = some o) → Q (.ref (s.heap.objs.size + 1)) { s with heap := h' }) :
    wpAny (model prog w) A (call (.type "enumerate") [v]) Q E s := by
  refine callType_new F.called_enumerate (by decide) (F.typeCall_enumerate_1 _) (F.newCall_enumerate_1 _) (fun obj => F.args_object_init_2 obj _) F.entry_enumerate_new
    (meets_enum1 B) ⟨h1, ?_⟩
  have hz : (s.heap.push o).objs.size = s.heap.objs.size + 1 := Heap.size_push ..
  show _ ∧ _
  rw [hz]
  have he : IsEnum ((s.heap.push o).push { cls := .type "enumerate", data := .fields #[.none, .bool false, .ref s.heap.objs.size, rawInt 0, .none, .none] }) (s.heap.objs.size + 1) s.heap.objs.size 0 .none := by
    have := Heap.get?_push_size (s.heap.push o) (o := { cls := .type "enumerate", data := .fields #[.none, .bool false, .ref s.heap.objs.size, rawInt 0, .none, .none] }) rfl
    rw [hz] at this; exact this
  refine ⟨⟨_, he, rfl⟩, h _ he (Heap.get?_push_of_some _ (Heap.get?_push_size _ B.free)) (by rw [Heap.size_push, hz]) fun b o x => Heap.get?_push_of_some _ (Heap.get?_push_of_some _ x)⟩
end
/-- over the tuple at a -/
def IteT (K : PySem.W.Frag) (a : Addr) : It :=
  ⟨fun i H => ∃ (xs : List V) (x : V), SqT K H a xs ∧ xs[i]? = some x, fun i H v H' => ∃ T x, v = .ref T ∧ H T = none ∧ H' = upd H T (.tup [.int (i : Nat), x]) ∧ ∀ xs, SqT K H a xs → xs[i]? = some x, fun i H => ∃ xs : List V, SqT K H a xs ∧ xs.length ≤ i⟩
theorem turn_enumT {P : Program} {w : World} {K : PySem.W.Frag} {elts : List Expr} {kk : Nat} {tpos : Pos} (a e it : Addr) :
    Turn P w K (.Tuple elts kk tpos) (IteT K a) [e, it] e (fun i h => (∃ old, IsEnum h e it ((i : Nat) : Int) old) ∧ h.IsTupleIter it a i ∧ e ≠ it ∧ e ≠ a ∧ a ≠ it) where
  mem := by simp
  obj := fun i h st b hb => by
    obtain ⟨⟨old, he⟩, ⟨o, ho, hc, hd⟩, _⟩ := st
    have e' : b = e ∨ b = it := by simpa using hb
    rcases e' with z | z
    · rw [z]; exact ⟨_, he, fun v q => nomatch q⟩
    · rw [z]; exact ⟨o, ho, fun v q => by rw [hd] at q; cases q⟩
  keep := fun i h h' st k => let ⟨⟨old, he⟩, hi, hne⟩ := st; ⟨⟨old, k e (by simp) _ he⟩, hi.at fun o q => k it (by simp) o q, hne⟩
  item := by
    intro X hP hw hK hc i pins s σ H E I hf st hg
    subst hP hw hK
    obtain ⟨⟨old, he⟩, hit, hne, hea, hat⟩ := st
    obtain ⟨xs, x, hq, hx⟩ := hg
    obtain ⟨its, rv, p, hz⟩ := I.tuple hq
    obtain ⟨u, hu, ru⟩ := rv.get hx
    have hel : e < s.heap.objs.size := Heap.lt_size he
    have hil : it < s.heap.objs.size := by obtain ⟨_, q, _⟩ := hit; exact Heap.lt_size q
    have hlt : i < its.toArray.size := by
      rw [List.size_toArray]
      exact (List.getElem?_eq_some_iff.mp hu).1
    have hef : e ∉ [it, a] := by simp [hne, hea]
    refine wpAny_pyNext_enum_itemC (Draws.tuple (prog := X.prog) (w := X.w) (A := X.A.in1) (I.ok.hd hc) it a hat its.toArray) he ⟨hit, p⟩ hlt hne hef fun x' h' tk hPx ho hit' hT hsz hk => ?_
    have ex : x' = u := by
      have : its.toArray[i]? = some u := by simpa using hu
      rw [this] at hPx; exact (Option.some.inj hPx).symm
    subst ex
    refine ⟨_, rfl, wpAny_letOwnedTupleGo_enum (s := { s with heap := h', toks := tk + 1 }) ho fun h'' he' sb => ?_⟩
    have hT2 : h''.get? s.heap.objs.size = some { cls := .type "tuple", data := .seq #[.int i tk, x'] } := (sb.2 _ (Nat.ne_of_gt hel)).trans hT
    have new : ObjOk X.prog X.w (upd H s.heap.objs.size (.tup [.int (i : Nat), x])) h'' s.heap.objs.size (.tup [.int (i : Nat), x]) :=
      ⟨by show 2 ≤ sizeLine; decide, [.int i tk, x'], .cons ⟨_, rfl⟩ (.cons ru .nil), ⟨_, hT2, rfl, _, rfl⟩⟩
    have I1 : Inv X pins σ (upd H s.heap.objs.size (.tup [.int (i : Nat), x])) { s with heap := h'', toks := tk + 1 } :=
      I.turnedNew (ch := [e, it]) (fun b ob hb q => (sb.2 b (fun z => hb (by simp [z]))).trans (hk b ob (fun z => hb (by simp [z])) (fun z => hb (by simp [z])) q)) hf (Nat.le_refl _) new
    refine ⟨.ref s.heap.objs.size, _, I1, rfl, ⟨_, x, rfl, I.hok.fresh (Nat.le_refl _), rfl, fun ys hy => by rw [I.tuple_inj hy hq]; exact hx⟩, ⟨⟨x', ?_⟩, hit'.1.at fun o q => (sb.2 it (Ne.symm hne)).trans q, hne, hea, hat⟩, fun b hb => ?_⟩
    · have e1 : ((i + 1 : Nat) : Int) = (i : Int) + 1 := by omega
      rw [e1]; exact he'
    · have hb' : b < s.heap.objs.size := by
        have e' : b = e ∨ b = it := by simpa using hb
        rcases e' with z | z
        · rw [z]; exact hel
        · rw [z]; exact hil
      rw [upd_ne (Nat.ne_of_lt hb')]
      exact (hf b hb).1
  done := by
    intro X hP hw hK hc i pins s σ H E I hf st hg
    subst hP hw hK
    obtain ⟨⟨old, he⟩, hit, hne, hea, hat⟩ := st
    obtain ⟨xs, hq, hx⟩ := hg
    obtain ⟨its, rv, p, hz⟩ := I.tuple hq
    obtain ⟨f0, f1, f2, f3, f4, f5⟩ := hf it (by simp)
    have hl := rv.length
    have D : Draws X.prog X.w X.A.in1 it [it, a] i (fun _ _ => True) (fun j h => j = i ∧ h.IsTupleIter it a i ∧ h.IsTuple a its.toArray) := {
      live := fun _ _ st => let ⟨o, ho, _⟩ := st.2.1; ⟨o, ho⟩
      frame := fun _ _ _ st hk => ⟨st.1, st.2.1.at fun o e => hk it (by simp) o e, st.2.2.at fun o e => hk a (by simp) o e⟩
      item := fun j s Q E hi st hQ => absurd hi (by have := st.1; omega)
      done := fun s Q E st hE => wpAny_nextOf_tuple_end (I.ok.hd hc) st.2.1 st.2.2 (by simp; omega) hE }
    exact wpAny_pyNext_enum_endD D he ⟨rfl, hit, p⟩ fun h' eb => ⟨rfl, I.turned (t' := s.toks) (fun b o hb q => eb b o hb q) f0 f1 f3 f4 f5⟩
  self := fun A i s Q E st h => let ⟨⟨_, he⟩, _⟩ := st; wpAny_pyIter_enum he h
def iEnumT (K : PySem.W.Frag) (ta : TA) : TI := fun σ H R => ta σ H fun vs H1 => ∃ a xs, vs = [.ref a] ∧ ((SqL K H1 a xs ∧ R (Ite K a) H1) ∨ (SqT K H1 a xs ∧ R (IteT K a) H1))
theorem pi_enumT {X : Cx} {e : Expr} {ta : TA} {p pos tpos : Pos} {elts : List Expr} {kk : Nat} (hg : Gl X "enumerate") (hm : X.mg "enumerate" = none) (ha : PA X [e] ta) (hs : starEach [e] X.env = [(false, eval e X.env)] := by rfl) :
    PI X (.Tuple elts kk tpos) (.Call (.Name "enumerate" p) [e] [] pos) (iEnumT X.K ta) := by
  refine ⟨fun pins s σ H R I h => ?_⟩
  refine Call_ (ld_blt I hg hm boot_enumerate (PyProof.Rows.callWith_type1 (thn (ha.run pos pins s σ H _ I h) fun us s1 ⟨vs, H1, I1, r1, q1⟩ => ?_) hs rfl))
  obtain ⟨a, xs, ex, hq⟩ := q1
  subst ex
  cases r1 with
  | cons r rr =>
    cases rr
    cases r
    rcases hq with ⟨hq, q⟩ | ⟨hq, q⟩
    · obtain ⟨its, rv, p', hz⟩ := I1.list hq
      refine call_enumerate_list p'.isList fun h' he hit hsz hk => wpAny_pyIter_enum he ?_
      have I2 : Inv X pins σ H1 { s1 with heap := h' } := I1.kept (t' := s1.toks) hk
      refine ⟨s1.heap.objs.size + 1, [s1.heap.objs.size + 1, s1.heap.objs.size], _, _, H1, rfl, I2, turn_enum a (s1.heap.objs.size + 1) s1.heap.objs.size, ⟨⟨.none, he⟩, hit, Nat.succ_ne_self _⟩, fun b hb => ?_, q⟩
      have e' : b = s1.heap.objs.size + 1 ∨ b = s1.heap.objs.size := by simpa using hb
      have hle : s1.heap.objs.size ≤ b := by
        rcases e' with e | e
        · rw [e]; exact Nat.le_succ _
        · exact Nat.le_of_eq e.symm
      exact I1.fpOk hle (I1.hok.fresh hle)
    · obtain ⟨its, rv, p', hz⟩ := I1.tuple hq
      have al : a < s1.heap.objs.size := by obtain ⟨_, z, _⟩ := p'; exact Heap.lt_size z
      refine call_enum1 (begins_tuple a its.toArray) p' fun h' he hit hsz hk => wpAny_pyIter_enum he ?_
      have I2 : Inv X pins σ H1 { s1 with heap := h' } := I1.kept (t' := s1.toks) hk
      refine ⟨s1.heap.objs.size + 1, [s1.heap.objs.size + 1, s1.heap.objs.size], _, _, H1, rfl, I2, turn_enumT a (s1.heap.objs.size + 1) s1.heap.objs.size, ⟨⟨.none, he⟩, ⟨_, hit, rfl, rfl⟩, Nat.succ_ne_self _, Nat.ne_of_gt (Nat.lt_succ_of_lt al), Nat.ne_of_lt al⟩, fun b hb => ?_, q⟩
      have e' : b = s1.heap.objs.size + 1 ∨ b = s1.heap.objs.size := by simpa using hb
      have hle : s1.heap.objs.size ≤ b := by
        rcases e' with e | e
        · rw [e]; exact Nat.le_succ _
        · exact Nat.le_of_eq e.symm
      exact I1.fpOk hle (I1.hok.fresh hle)
section
variable {G : Gd} {Γ : Gm}
theorem itD_enumT {X : Cx} (ok : Γ.Ok G X) {F : Hp} {a : Addr} {us : List V} {ds : List D} (h : SqT G.K F a us) (r : RpA G.K G.mg F us ds) : ItD G (IteT X.K a) (enumD ds) F where
  go := fun i F' H' s s' hi => by
    have hi : i < ds.length := by simpa [enumD] using hi
    obtain ⟨v, e, _⟩ := r.get (List.getElem?_eq_getElem hi)
    exact ⟨us, v, (by rw [ok.K]; exact L2.Same.seqT (s.trans s') h), e⟩
  st := fun i F' H' s s' hi => ⟨us, (by rw [ok.K]; exact L2.Same.seqT (s.trans s') h), by rw [r.length]; simpa [enumD] using hi⟩
  yl := fun i F' H' x H'' s s' hi y => by
    have hi : i < ds.length := by simpa [enumD] using hi
    obtain ⟨T, y0, rfl, hT, rfl, y⟩ := y
    have e := y us ((by rw [ok.K]; exact L2.Same.seqT (s.trans s') h))
    obtain ⟨v, e2, rv⟩ := r.get (List.getElem?_eq_getElem hi)
    rw [e] at e2; cases e2
    have g := Grow.new s' (.tup [.int (i : Nat), y0]) hT
    refine ⟨.tup [.int (i : Int), ds[i]], _, ?_, g, .tup upd_same (.cons (.int _) (.cons (rv.mono (s.trans g.sF)) .nil))⟩
    unfold enumD
    rw [List.getElem?_map, List.getElem?_zipIdx, List.getElem?_eq_getElem hi]
    simp
def seqD : D → Option (List D) | .lst ds => some ds | .tup ds => some ds | _ => none
def mEnX (m : Sl → R D) : Sl → R (List D) := fun L => (m L).bind fun d => lift ((seqD d).map enumD)
theorem ci_enX (gr : Γ.Gr G) {elts : List Expr} {kk : Nat} {tpos : Pos} {a : Expr} {m : Sl → R D} {p pos : Pos} (h : rngB Γ "enumerate" [a] = true) (ha : CE G Γ a m) : CI G Γ (.Tuple elts kk tpos) (.Call (.Name "enumerate" p) [a] [] pos) (mEnX m) := by
  unfold rngB at h
  obtain ⟨h, h3⟩ := and2 h
  obtain ⟨h1, h2⟩ := and2 h
  have hs : nst a = true := by simpa using h3
  have hx := of_decide_eq_true h1
  refine fun X ok W tk => piImp (pi_enumT (gl_of ok.sc h2) (by rw [ok.mg]; exact gr.bl _ hx) (pa_cons (ha X ok W tk) pa_nil (star_cons hs)) (star1 hs)) fun σ H Q h => ?_
  obtain ⟨B, F0, L, F, A, R, h⟩ := h
  refine ⟨B, F0, L, F, A, R, (pG.bind h).imp R fun d F1 H1 s1 R1 g1 h1 v rv => ?_⟩
  cases d with
  | lst ds =>
    cases rv with
    | lst hb r => exact ⟨_, _, rfl, .inl ⟨(by rw [ok.K]; exact Same.seq R1.sf hb), h1 F1 H1 (Grow.refl R1.sf) _ (itD_enum ok hb r)⟩⟩
  | tup ds =>
    cases rv with
    | tup hb r => exact ⟨_, _, rfl, .inr ⟨(by rw [ok.K]; exact R1.sf.tq hb), h1 F1 H1 (Grow.refl R1.sf) _ (itD_enumT ok (.inl (.inl hb)) r)⟩⟩
  | _ => exact h1.elim
end
end Eng

end
section
set_option Elab.async false
set_option linter.all false
set_option maxRecDepth 100000
set_option maxHeartbeats 4000000
/-! the by-value functions run: rules for simp -/
namespace Eng
open PySem PySem.Spec L2
@[simp] theorem bind_ok {α β : Type} {a : α} {k : α → R β} : R.bind (.ok a) k = k a := by rfl
@[simp] theorem bind_exc {α β : Type} {c : Str} {k : α → R β} : R.bind (.exc c) k = .exc c := by rfl
@[simp] theorem bind_stuck {α β : Type} {k : α → R β} : R.bind .stuck k = .stuck := by rfl
@[simp] theorem lift_some {α : Type} {a : α} : lift (some a) = .ok a := by rfl
@[simp] theorem lift_none {α : Type} : lift (none : Option α) = .stuck := by rfl
@[simp] theorem ap_mC {d : D} {L : Sl} : mC d L = .ok d := by rfl
@[simp] theorem ap_var0 {d : D} {L : Sl} : mVar 0 (some (.v d) :: L) = .ok d := by rfl
@[simp] theorem ap_varS {i : Nat} {x : Option O} {L : Sl} : mVar (i + 1) (x :: L) = mVar i L := by rfl
@[simp] theorem ap_m2 {f : D → D → Option D} {a b : Sl → R D} {L : Sl} : m2 f a b L = (a L).bind fun x => (b L).bind fun y => lift (f x y) := by rfl
@[simp] theorem ap_m1 {f : D → Option D} {a : Sl → R D} {L : Sl} : m1 f a L = (a L).bind fun x => lift (f x) := by rfl
@[simp] theorem ap_mB {a : Sl → R D} {L : Sl} : mB a L = (a L).bind fun d => lift (asB d) := by rfl
@[simp] theorem ap_mF {f : List D → Option D} {a : Sl → R (List D)} {L : Sl} : mF f a L = (a L).bind fun d => lift (f d) := by rfl
@[simp] theorem ap_mNil {L : Sl} : mNil L = .ok [] := by rfl
@[simp] theorem ap_mCons {a : Sl → R D} {b : Sl → R (List D)} {L : Sl} : mCons a b L = (a L).bind fun x => (b L).bind fun xs => .ok (x :: xs) := by rfl
@[simp] theorem ap_mTup {a : Sl → R (List D)} {L : Sl} : mTup a L = (a L).bind fun ds => if ds.length ≤ 16777216 then .ok (.tup ds) else .stuck := by rfl
@[simp] theorem ap_mLst {a : Sl → R (List D)} {L : Sl} : mLst a L = (a L).bind fun ds => if ds.length ≤ 16777216 then .ok (.ml (ds.map .v)) else .stuck := by rfl
@[simp] theorem ap_mV {m : Sl → R D} {L : Sl} : mV m L = (m L).bind fun d => .ok (.v d) := by rfl
@[simp] theorem ap_mFO {f : List D → Option O} {m : Sl → R (List D)} {L : Sl} : mFO f m L = (m L).bind fun d => lift (f d) := by rfl
@[simp] theorem ap_mFr {a : Sl → R O} {L : Sl} : mFr a L = (a L).bind fun o => .ok o.fr := by rfl
@[simp] theorem ap_mCall {f : List D → R O} {a : Sl → R (List D)} {L : Sl} : mCall f a L = (a L).bind f := by rfl
@[simp] theorem ap_mIf {α : Type} {c : Sl → R Bool} {a b : Sl → R α} {L : Sl} : mIf c a b L = (c L).bind fun x => if x = true then a L else b L := by rfl
@[simp] theorem ap_mAnd {a b : Sl → R Bool} {L : Sl} : mAnd a b L = (a L).bind fun x => if x = true then b L else .ok false := by rfl
@[simp] theorem ap_mOr {a b : Sl → R Bool} {L : Sl} : mOr a b L = (a L).bind fun x => if x = true then .ok true else b L := by rfl
@[simp] theorem ap_mNot {a : Sl → R Bool} {L : Sl} : mNot a L = (a L).bind fun x => .ok (!x) := by rfl
@[simp] theorem ap_vAnd {a b : Sl → R D} {L : Sl} : vAnd a b L = (a L).bind fun x => (lift (asB x)).bind fun k => if k = true then b L else .ok (.bl false) := by rfl
@[simp] theorem ap_vOr {a b : Sl → R D} {L : Sl} : vOr a b L = (a L).bind fun x => (lift (asB x)).bind fun k => if k = true then .ok (.bl true) else b L := by rfl
@[simp] theorem ap_vNot {a : Sl → R D} {L : Sl} : vNot a L = (a L).bind fun x => (lift (asB x)).bind fun k => .ok (.bl (!k)) := by rfl
@[simp] theorem ap_mCh {f g : D → D → Option D} {a b c : Sl → R D} {L : Sl} : mCh f g a b c L = (a L).bind fun x => (b L).bind fun y => (lift (f x y)).bind fun z => (lift (asB z)).bind fun k => if k = true then (c L).bind fun w => lift (g y w) else .ok (.bl false) := by rfl
@[simp] theorem ap_mSl {m : Sl → R D} {lo hi : Sl → R (Option Int)} {L : Sl} : mSl m lo hi L = (m L).bind fun x => (lo L).bind fun i => (hi L).bind fun j => lift (fSl x i j) := by rfl
@[simp] theorem ap_mNoP {L : Sl} : mNoP L = .ok none := by rfl
@[simp] theorem ap_mP {m : Sl → R D} {L : Sl} : mP m L = (m L).bind fun d => (lift (asI d)).bind fun i => .ok (some i) := by rfl
@[simp] theorem ap_mS1 {f : D → D → Option D} {a b : Sl → R D} {L : Sl} : mS1 f a b L = (a L).bind fun x => (lift (asS x)).bind fun _ => (b L).bind fun y => lift (f x y) := by rfl
@[simp] theorem ap_mIt {m : Sl → R D} {L : Sl} : mIt m L = (m L).bind fun d => lift (itemsD d) := by rfl
@[simp] theorem ap_mRg1 {m : Sl → R D} {L : Sl} : mRg1 m L = (m L).bind fun d => lift (rng1 d) := by rfl
@[simp] theorem ap_mRg2 {a b : Sl → R D} {L : Sl} : mRg2 a b L = (a L).bind fun x => (b L).bind fun y => lift (rng2 x y) := by rfl
@[simp] theorem ap_mEn {m : Sl → R D} {L : Sl} : mEn m L = (m L).bind fun d => lift ((lstD d).map enumD) := by rfl
@[simp] theorem ap_mZip {a b : Sl → R D} {L : Sl} : mZip a b L = (a L).bind fun x => (b L).bind fun y => lift ((lstD x).bind fun xs => (lstD y).map fun ys => zipD xs ys) := by rfl
@[simp] theorem ap_mYes {L : Sl} : mYes L = .ok true := by rfl
@[simp] theorem ap_vT {α : Type} {m : Sl → R α} {L : Sl} : vT m L = m (frL L) := by rfl
@[simp] theorem ap_vE {m : Sl → R D} {L : Sl} : vE m L = (m (frL L)).bind fun d => if vOk L d.pl = true then .ok d else .stuck := by rfl
@[simp] theorem ap_vO {m : Sl → R O} {L : Sl} : vO m L = (m (frL L)).bind fun d => if vOk L d.pl = true then .ok d else .stuck := by rfl
@[simp] theorem asB_bl {b : Bool} : asB (.bl b) = some b := by rfl
@[simp] theorem asI_int {b : Int} : asI (.int b) = some b := by rfl
@[simp] theorem asS_str {b : Str} : asS (.str b) = some b := by rfl
@[simp] theorem lstD_lst {b : List D} : lstD (.lst b) = some b := by rfl
@[simp] theorem items_lst {b : List D} : itemsD (.lst b) = some b := by rfl
@[simp] theorem items_tup {b : List D} : itemsD (.tup b) = some b := by rfl
@[simp] theorem items_str {b : Str} : itemsD (.str b) = some (signs b) := by rfl
/-! statements -/
def seqR (r : RS) (b : Sl → RS) : RS := match r with | .next L => b L | r => r
def bindS {α : Type} (r : R α) (k : α → Sl → RS) (L : Sl) : RS := match r with | .ok a => k a L | .exc c => .exc c L | .stuck => .stuck
@[simp] theorem ap_sSeq {a b : Sl → RS} {L : Sl} : sSeq a b L = seqR (a L) b := by rfl
@[simp] theorem seq_next {b : Sl → RS} {L : Sl} : seqR (.next L) b = b L := by rfl
@[simp] theorem seq_ret {b : Sl → RS} {o : O} {L : Sl} : seqR (.ret o L) b = .ret o L := by rfl
@[simp] theorem seq_exc {b : Sl → RS} {c : Str} {L : Sl} : seqR (.exc c L) b = .exc c L := by rfl
@[simp] theorem seq_brk {b : Sl → RS} {L : Sl} : seqR (.brk L) b = .brk L := by rfl
@[simp] theorem seq_cont {b : Sl → RS} {L : Sl} : seqR (.cont L) b = .cont L := by rfl
@[simp] theorem bs_ok {α : Type} {a : α} {k : α → Sl → RS} {L : Sl} : bindS (.ok a) k L = k a L := by rfl
@[simp] theorem bs_exc {α : Type} {c : Str} {k : α → Sl → RS} {L : Sl} : bindS (.exc c) k L = .exc c L := by rfl
@[simp] theorem ap_sNext {L : Sl} : sNext L = .next L := by rfl
@[simp] theorem ap_sSet {i : Nat} {m : Sl → R D} {L : Sl} : sSet i m L = bindS (m L) (fun d L => if okSet L i = true then .next (L.set i (some (.v d))) else .stuck) L := by rfl
@[simp] theorem ap_sSetO {i : Nat} {m : Sl → R O} {L : Sl} : sSetO i m L = bindS (m L) (fun d L => if okSet L i = true then .next (L.set i (some d)) else .stuck) L := by rfl
@[simp] theorem ap_sRet {m : Sl → R D} {L : Sl} : sRet m L = bindS (m L) (fun d L => .ret (.v d) L) L := by rfl
@[simp] theorem ap_sRetO {m : Sl → R O} {L : Sl} : sRetO m L = bindS (m L) (fun d L => .ret d L) L := by rfl
@[simp] theorem ap_sRetN {L : Sl} : sRetN L = .ret (.v .non) L := by rfl
@[simp] theorem ap_sIf {c : Sl → R Bool} {a b : Sl → RS} {L : Sl} : sIf c a b L = bindS (c L) (fun x L => if x = true then a L else b L) L := by rfl
@[simp] theorem ap_sRaise {c : Str} {L : Sl} : sRaise c L = .exc c L := by rfl
@[simp] theorem ap_sFor {it : Sl → R (List D)} {tg : D → Sl → Option Sl} {body : Sl → RS} {L : Sl} : sFor it tg body L = bindS (it L) (fun ds L => forGo tg body L ds) L := by rfl
@[simp] theorem ap_sTg {g : D → Sl → Option Sl} {m : Sl → R D} {L : Sl} : sTg g m L = bindS (m L) (fun d L => match g d L with | some L' => .next L' | none => .stuck) L := by rfl
@[simp] theorem ap_mLc {it : Sl → R (List D)} {vs : List Nat} {tg : D → Sl → Option Sl} {tst : Sl → R Bool} {el : Sl → R D} {L : Sl} : mLc it vs tg tst el L = (it L).bind fun ds => if ds.length ≤ 16777216 ∧ okW L vs = true then (match lcGo tg tst el (wipeL L vs) ds with | .ok es => .ok (.ml (es.map .v)) | _ => .stuck) else .stuck := by rfl
@[simp] theorem ap_out_ret {o : O} {L : Sl} : out (.ret o L) = .ok o := by rfl
@[simp] theorem ap_out_next {L : Sl} : out (.next L) = .ok (.v .non) := by rfl
@[simp] theorem ap_out_exc {c : Str} {L : Sl} : out (.exc c L) = .exc c := by rfl
@[simp] theorem frA_v {xs : List D} : O.frA (xs.map .v) = xs := by induction xs with | nil => rfl | cons x xs ih => show x :: O.frA (xs.map .v) = x :: xs; rw [ih]
theorem fr_ml {xs : List D} : (O.ml (xs.map .v)).fr = .lst xs := by show D.lst (O.frA (xs.map .v)) = _; rw [frA_v]
@[simp] theorem fr_v {d : D} : (O.v d).fr = d := by rfl
@[simp] theorem ok_S {x : Option O} {L : Sl} {i : Nat} : okSet (x :: L) (i + 1) = okSet L i := by simp [okSet, isPin]
@[simp] theorem ok_0n {L : Sl} : okSet (none :: L) 0 = true := by rfl
@[simp] theorem ok_0v {L : Sl} {d : D} : okSet (some (.v d) :: L) 0 = true := by rfl
@[simp] theorem ok_0l {L : Sl} {d : List O} : okSet (some (.ml d) :: L) 0 = true := by rfl
@[simp] theorem ok_0t {L : Sl} {d : List (Key × O)} : okSet (some (.mk d) :: L) 0 = true := by rfl
@[simp] theorem ok_0q {L : Sl} {d : List (List Key × O)} : okSet (some (.mq d) :: L) 0 = true := by rfl
@[simp] theorem ok_0i {L : Sl} {c : Str} {d : List (Str × O)} {p : Bool} : okSet (some (.mi p c d) :: L) 0 = !p := by cases p <;> rfl
@[simp] theorem okW_nil {L : Sl} : okW L [] = true := by rfl
@[simp] theorem okW_cons {L : Sl} {i : Nat} {vs : List Nat} : okW L (i :: vs) = (!isPin L i && okW L vs) := by rfl
@[simp] theorem pin_S {x : Option O} {L : Sl} {i : Nat} : isPin (x :: L) (i + 1) = isPin L i := by simp [isPin]
@[simp] theorem pin_0n {L : Sl} : isPin (none :: L) 0 = false := by rfl
@[simp] theorem pin_0v {L : Sl} {d : D} : isPin (some (.v d) :: L) 0 = false := by rfl
@[simp] theorem pin_0l {L : Sl} {d : List O} : isPin (some (.ml d) :: L) 0 = false := by rfl
@[simp] theorem pin_0t {L : Sl} {d : List (Key × O)} : isPin (some (.mk d) :: L) 0 = false := by rfl
@[simp] theorem pin_0q {L : Sl} {d : List (List Key × O)} : isPin (some (.mq d) :: L) 0 = false := by rfl
@[simp] theorem pin_0i {L : Sl} {c : Str} {d : List (Str × O)} {p : Bool} : isPin (some (.mi p c d) :: L) 0 = p := by rfl
@[simp] theorem ap_put {i : Nat} {d : D} {L : Sl} : put i d L = if okSet L i = true then some (L.set i (some (.v d))) else none := by rfl
@[simp] theorem wipe_nil {L : Sl} : wipeL L [] = L := by rfl
/-! operations -/
@[simp] theorem fAdd_ii {i j : Int} : fAdd (.int i) (.int j) = some (.int (i + j)) := by rfl
@[simp] theorem fSub_ii {i j : Int} : fSub (.int i) (.int j) = some (.int (i - j)) := by rfl
theorem fMul_ii {i j : Int} (h : mulOk i j) : fMul (.int i) (.int j) = some (.int (i * j)) := if_pos h
@[simp] theorem fDiv_ii {i j : Int} (h : 0 < j ∧ j < 18446744073709551616) : fDiv (.int i) (.int j) = some (.int (i / j)) := if_pos h
@[simp] theorem fMod_ii {i j : Int} (h : 0 < j) : fMod (.int i) (.int j) = some (.int (i % j)) := if_pos h
@[simp] theorem fEq_ii {i j : Int} : fEq (.int i) (.int j) = some (.bl (decide (i = j))) := by rfl
@[simp] theorem fEq_ss {i j : Str} : fEq (.str i) (.str j) = some (.bl (decide (i = j))) := by rfl
@[simp] theorem fEq_bb {i j : Bool} : fEq (.bl i) (.bl j) = some (.bl (decide (i = j))) := by rfl
@[simp] theorem fNe_ii {i j : Int} : fNe (.int i) (.int j) = some (.bl (!decide (i = j))) := by rfl
@[simp] theorem fNe_ss {i j : Str} : fNe (.str i) (.str j) = some (.bl (!decide (i = j))) := by rfl
@[simp] theorem fNe_bb {i j : Bool} : fNe (.bl i) (.bl j) = some (.bl (!decide (i = j))) := by rfl
@[simp] theorem fLt_ii {i j : Int} : fLt (.int i) (.int j) = some (.bl (decide (i < j))) := by rfl
@[simp] theorem fGt_ii {i j : Int} : fGt (.int i) (.int j) = some (.bl (decide (j < i))) := by rfl
@[simp] theorem fLe_ii {i j : Int} : fLe (.int i) (.int j) = some (.bl (!decide (j < i))) := by rfl
@[simp] theorem fGe_ii {i j : Int} : fGe (.int i) (.int j) = some (.bl (!decide (i < j))) := by rfl
/-! comprehensions -/
theorem lcGo_all {tg : D → Sl → Option Sl} {el : Sl → R D} {L : Sl} {P : D → Prop} : ∀ {xs : List D}, (∀ x ∈ xs, ∃ L' y, tg x L = some L' ∧ el L' = .ok y ∧ P y) →
    ∃ ys, lcGo tg mYes el L xs = .ok ys ∧ ys.length = xs.length ∧ ∀ y ∈ ys, P y
  | [], _ => ⟨[], rfl, rfl, fun _ m => nomatch m⟩
  | x :: xs, h => by
    obtain ⟨L', y, e1, e2, p⟩ := h x List.mem_cons_self
    obtain ⟨ys, e3, e4, q⟩ := lcGo_all (xs := xs) fun z m => h z (List.mem_cons_of_mem _ m)
    refine ⟨y :: ys, ?_, by simp [e4], fun z m => ?_⟩
    · unfold lcGo
      rw [e1, lift_some, bind_ok, ap_mYes, bind_ok, if_pos rfl, e2, bind_ok, e3, bind_ok]
    · rcases List.mem_cons.mp m with rfl | m
      · exact p
      · exact q z m
theorem lcGo_map {tg : D → Sl → Option Sl} {el : Sl → R D} {L : Sl} {α : Type} {f : α → D} {g : α → D} : ∀ {xs : List α}, (∀ x ∈ xs, ∃ L', tg (f x) L = some L' ∧ el L' = .ok (g x)) → lcGo tg mYes el L (xs.map f) = .ok (xs.map g)
  | [], _ => rfl
  | x :: xs, h => by
    obtain ⟨L', e1, e2⟩ := h x List.mem_cons_self
    have e3 := lcGo_map (f := f) (g := g) (xs := xs) fun z m => h z (List.mem_cons_of_mem _ m)
    rw [List.map_cons, List.map_cons]
    unfold lcGo
    rw [e1, lift_some, bind_ok, ap_mYes, bind_ok, if_pos rfl, e2, bind_ok, e3, bind_ok]
/-- with a test -/
theorem lcGo_filter {tg : D → Sl → Option Sl} {tst : Sl → R Bool} {el : Sl → R D} {L : Sl} {α : Type} {f : α → D} {p : α → Bool} {g : α → D} : ∀ {xs : List α}, (∀ x ∈ xs, ∃ L', tg (f x) L = some L' ∧ tst L' = .ok (p x) ∧ (p x = true → el L' = .ok (g x))) → lcGo tg tst el L (xs.map f) = .ok ((xs.filter p).map g)
  | [], _ => rfl
  | x :: xs, h => by
    obtain ⟨L', e1, e2, e4⟩ := h x List.mem_cons_self
    have e3 := lcGo_filter (f := f) (g := g) (p := p) (xs := xs) fun z m => h z (List.mem_cons_of_mem _ m)
    rw [List.map_cons, List.filter_cons]
    unfold lcGo
    rw [e1, lift_some, bind_ok, e2, bind_ok]
    cases hp : p x with
    | true => rw [if_pos rfl, if_pos rfl, e4 hp, bind_ok, e3, bind_ok]; rfl
    | false => rw [if_neg Bool.false_ne_true, if_neg Bool.false_ne_true, e3]
/-! loops -/
theorem for_inv {tg : D → Sl → Option Sl} {body : Sl → RS} {P : List D → Sl → Prop} : ∀ {xs : List D} {L : Sl}, P xs L → (∀ x r L, P (x :: r) L → ∃ L1 L2, tg x L = some L1 ∧ (body L1 = .next L2 ∨ body L1 = .cont L2) ∧ P r L2) →
    ∃ L', forGo tg body L xs = .next L' ∧ P [] L'
  | [], L, h, _ => ⟨L, rfl, h⟩
  | x :: xs, L, h, s => by
    obtain ⟨L1, L2, e1, e2, p⟩ := s x xs L h
    obtain ⟨L', e3, q⟩ := for_inv p s
    refine ⟨L', ?_, q⟩
    unfold forGo
    rw [e1]
    rcases e2 with e2 | e2 <;> (dsimp only; rw [e2]; exact e3)
end Eng

end
section
set_option Elab.async false
set_option linter.all false
set_option maxRecDepth 100000
set_option maxHeartbeats 4000000
/-! texts, places, loops: more rules for simp -/
namespace Eng
open PySem PySem.Spec L2
@[simp] theorem frA_nil : O.frA [] = [] := by rfl
@[simp] theorem frA_cons {o : O} {os : List O} : O.frA (o :: os) = o.fr :: O.frA os := by rfl
@[simp] theorem fr_ml2 {os : List O} : (O.ml os).fr = .lst (O.frA os) := by rfl

@[simp] theorem ok_0m {L : Sl} {d : Option D} : okSet (d.map O.v :: L) 0 = true := by cases d <;> rfl
@[simp] theorem pin_0m {L : Sl} {d : Option D} : isPin (d.map O.v :: L) 0 = false := by cases d <;> rfl
@[simp] theorem wipe_cons {L : Sl} {v : Nat} {vs : List Nat} : wipeL L (v :: vs) = (wipeL L vs).set v none := by rfl
@[simp] theorem ap_putCons {m : D → Sl → Option Sl} {r : List D → Sl → Option Sl} {d : D} {ds : List D} {L : Sl} : putCons m r (d :: ds) L = (m d L).bind (r ds) := by rfl
@[simp] theorem ap_putNil {L : Sl} : putNil [] L = some L := by rfl
@[simp] theorem frA_vc {α : Type} {f : α → D} {xs : List α} : O.frA (xs.map (O.v ∘ f)) = xs.map f := by rw [← List.map_map]; exact frA_v
theorem atI_nn {α : Type} {xs : List α} {i : Int} (h : 0 ≤ i) (h2 : i < xs.length) : atI xs i = xs[i.toNat]? := by
  unfold atI ixN
  rw [if_pos h, if_pos h2]; rfl
/-- a list's number at a place -/
def nth (ns : List Int) (i : Int) : Int := ns.getD i.toNat 0
theorem nth_all {P : Int → Prop} {ns : List Int} {i : Int} (h : ∀ n ∈ ns, P n) (h0 : P 0) : P (nth ns i) := by
  unfold nth
  rw [List.getD]
  cases e : ns[i.toNat]? with
  | none => exact h0
  | some x => exact h _ (List.mem_of_getElem? e)
theorem atI_int {ns : List Int} {i : Int} (h : 0 ≤ i) (h2 : i < ns.length) : atI (ns.map D.int) i = some (.int (nth ns i)) := by
  unfold nth
  rw [atI_nn h (by simpa using h2), List.getElem?_map, List.getD, List.getElem?_eq_getElem (by omega)]; rfl
@[simp] theorem fIx_l {ds : List D} {i : Int} : fIx (.lst ds) (.int i) = atI ds i := by rfl
@[simp] theorem fIx_t {ds : List D} {i : Int} : fIx (.tup ds) (.int i) = atI ds i := by rfl
theorem fIx_ints {ds : List D} {ns : List Int} {i : Int} (e : intsD ds = some ns) (h : 0 ≤ i) (h2 : i < ns.length) : atI ds i = some (.int (nth ns i)) := by
  have : ds = ns.map D.int := by
    clear h h2
    induction ds generalizing ns with
    | nil => cases e; rfl
    | cons d ds ih => cases d with
      | int j =>
        unfold intsD at e
        cases e1 : intsD ds with
        | none => rw [e1] at e; cases e
        | some ms => rw [e1] at e; cases e; rw [List.map_cons, ih e1]
      | _ => unfold intsD at e; cases e
  rw [this, atI_int h h2]
theorem fIx_s {z : Str} {i : Int} : fIx (.str z) (.int i) = if z.length ≤ 16777216 then (atI z.cps.toList i).map fun c => .str ⟨#[c]⟩ else none := rfl
/-- a text's sign at a place, a text -/
def sgn (z : Str) (i : Int) : Str := ⟨#[z.cps.toList.getD i.toNat 0]⟩
@[simp] theorem sgn_len {z : Str} {i : Int} : (sgn z i).length = 1 := by rfl
theorem fIx_sn {z : Str} {i : Int} (h : 0 ≤ i) (h2 : i < z.length) (hs : z.length ≤ 16777216) : fIx (.str z) (.int i) = some (.str (sgn z i)) := by
  unfold sgn
  have e : z.length = z.cps.toList.length := rfl
  rw [fIx_s, if_pos hs, atI_nn h (by rw [← e]; exact h2), List.getD, List.getElem?_eq_getElem (by omega)]; rfl
theorem fIx_lit {z : Str} {i : Int} {n : Nat} (e : z.length = n) (hn : n ≤ 1000) (h : 0 ≤ i) (h2 : i < n) : fIx (.str z) (.int i) = some (.str (sgn z i)) := fIx_sn h (by omega) (by omega)
theorem abc_len : (Str.ofString "abcdefghijklmnopqrstuvwxyz").length = 26 := by decide
theorem fIx_abc {i : Int} (h : 0 ≤ i) (h2 : i < 26) : fIx (.str (Str.ofString "abcdefghijklmnopqrstuvwxyz")) (.int i) = some (.str (sgn (Str.ofString "abcdefghijklmnopqrstuvwxyz") i)) := fIx_lit abc_len (by decide) h h2
@[simp] theorem fLen_s {z : Str} : fLen [.str z] = if z.length ≤ 16777216 then some (.int z.length) else none := by rfl
@[simp] theorem fLen_l {z : List D} : fLen [.lst z] = some (.int z.length) := by rfl
@[simp] theorem fLen_t {z : List D} : fLen [.tup z] = some (.int z.length) := by rfl
@[simp] theorem fAdd_ss {x y : Str} : fAdd (.str x) (.str y) = if x.length + y.length ≤ 16777216 then some (.str (x ++ y)) else none := by rfl
@[simp] theorem fAdd_ll {x y : List D} : fAdd (.lst x) (.lst y) = if x.length + y.length ≤ 16777216 then some (.lst (x ++ y)) else none := by rfl
@[simp] theorem fAdd_tt {x y : List D} : fAdd (.tup x) (.tup y) = if x.length + y.length ≤ 16777216 then some (.tup (x ++ y)) else none := by rfl
theorem len_app (x y : Str) : (x ++ y).length = x.length + y.length := by
  show ((x.cps ++ y.cps).size) = x.cps.size + y.cps.size
  exact Array.size_append
@[simp] theorem len_cut {z : Str} {a b : Option Int} : (cutS z a b).length ≤ z.length := by
  show ((z.cps.toList.drop _).take _).toArray.size ≤ z.cps.size
  rw [List.size_toArray, List.length_take, List.length_drop]
  have : z.cps.toList.length = z.cps.size := rfl
  omega
@[simp] theorem fSl_s {z : Str} {a b : Option Int} : fSl (.str z) a b = if z.length ≤ 16777216 then some (.str (cutS z a b)) else none := by rfl
@[simp] theorem fSl_l {z : List D} {a b : Option Int} : fSl (.lst z) a b = some (.lst (cut z a b)) := by rfl
@[simp] theorem fSl_t {z : List D} {a b : Option Int} : fSl (.tup z) a b = some (.tup (cut z a b)) := by rfl
theorem strs_map {zs : List Str} : strsD (zs.map D.str) = some zs := by
  induction zs with
  | nil => rfl
  | cons z zs ih => show (strsD (zs.map D.str)).map (z :: ·) = _; rw [ih]; rfl
theorem ints_map {zs : List Int} : intsD (zs.map D.int) = some zs := by
  induction zs with
  | nil => rfl
  | cons z zs ih => show (intsD (zs.map D.int)).map (z :: ·) = _; rw [ih]; rfl
theorem bools_map {zs : List Bool} : boolsD (zs.map D.bl) = some zs := by
  induction zs with
  | nil => rfl
  | cons z zs ih => show (boolsD (zs.map D.bl)).map (z :: ·) = _; rw [ih]; rfl
theorem one_len {c : Nat} : Str.length ⟨#[c]⟩ = 1 := rfl

/-- one sign in a text -/
theorem fIn_1 {c : Nat} {t : Str} : fIn (.str ⟨#[c]⟩) (.str t) = some (.bl (decide (c ∈ t.cps.toList))) := rfl
theorem fNin_1 {c : Nat} {t : Str} : fNin (.str ⟨#[c]⟩) (.str t) = some (.bl (!decide (c ∈ t.cps.toList))) := rfl
theorem map_lift {α : Type} {o : Option α} {x : α} (h : o = some x) : lift o = .ok x := by rw [h]; rfl
/-- a comprehension's element by element -/
theorem lcGo_go {tg : D → Sl → Option Sl} {el : Sl → R D} {L : Sl} {g : D → D} : ∀ {xs : List D}, (∀ x ∈ xs, ∃ L', tg x L = some L' ∧ el L' = .ok (g x)) → lcGo tg mYes el L xs = .ok (xs.map g)
  | [], _ => rfl
  | x :: xs, h => by
    obtain ⟨L', e1, e2⟩ := h x List.mem_cons_self
    have e3 := lcGo_go (g := g) (xs := xs) fun z m => h z (List.mem_cons_of_mem _ m)
    rw [List.map_cons]
    unfold lcGo
    rw [e1, lift_some, bind_ok, ap_mYes, bind_ok, if_pos rfl, e2, bind_ok, e3, bind_ok]
/-- a loop whose states are told by a thing s -/
theorem for_fold {σ α : Type} {tg : D → Sl → Option Sl} {body : Sl → RS} (st : σ → Sl) (g : α → D) (f : σ → α → σ) : ∀ {xs : List α} {s : σ}, (∀ s, ∀ x ∈ xs, ∃ L1, tg (g x) (st s) = some L1 ∧ (body L1 = .next (st (f s x)) ∨ body L1 = .cont (st (f s x)))) →
    forGo tg body (st s) (xs.map g) = .next (st (xs.foldl f s))
  | [], s, _ => rfl
  | x :: xs, s, h => by
    obtain ⟨L1, e1, e2⟩ := h s x List.mem_cons_self
    have e3 := for_fold st g f (xs := xs) (s := f s x) fun s z m => h s z (List.mem_cons_of_mem _ m)
    rw [List.map_cons, List.foldl_cons]
    unfold forGo
    rw [e1]
    rcases e2 with e2 | e2 <;> (dsimp only; rw [e2]; exact e3)
theorem for_inv2 {σ α : Type} {tg : D → Sl → Option Sl} {body : Sl → RS} (st : σ → Sl) (g : α → D) : ∀ {xs : List α} {s : σ}, (∀ s, ∀ x ∈ xs, ∃ L1 s', tg (g x) (st s) = some L1 ∧ (body L1 = .next (st s') ∨ body L1 = .cont (st s'))) →
    ∃ s', forGo tg body (st s) (xs.map g) = .next (st s')
  | [], s, _ => ⟨s, rfl⟩
  | x :: xs, s, h => by
    obtain ⟨L1, s1, e1, e2⟩ := h s x List.mem_cons_self
    obtain ⟨s2, e3⟩ := for_inv2 st g (xs := xs) (s := s1) fun s z m => h s z (List.mem_cons_of_mem _ m)
    refine ⟨s2, ?_⟩
    rw [List.map_cons]
    unfold forGo
    rw [e1]
    rcases e2 with e2 | e2 <;> (dsimp only; rw [e2]; exact e3)
@[simp] theorem isi_bb {b : Bool} : fIsi "bool" (.bl b) = some (.bl true) := by rfl
@[simp] theorem isi_bi {b : Int} : fIsi "bool" (.int b) = some (.bl false) := by rfl
@[simp] theorem isi_bs {b : Str} : fIsi "bool" (.str b) = some (.bl false) := by rfl
@[simp] theorem isi_bn : fIsi "bool" .non = some (.bl false) := by rfl
@[simp] theorem isi_ib {b : Bool} : fIsi "int" (.bl b) = some (.bl true) := by rfl
@[simp] theorem isi_ii {b : Int} : fIsi "int" (.int b) = some (.bl true) := by rfl
@[simp] theorem isi_is {b : Str} : fIsi "int" (.str b) = some (.bl false) := by rfl
@[simp] theorem isi_in : fIsi "int" .non = some (.bl false) := by rfl
@[simp] theorem isi_sb {b : Bool} : fIsi "str" (.bl b) = some (.bl false) := by rfl
@[simp] theorem isi_si {b : Int} : fIsi "str" (.int b) = some (.bl false) := by rfl
@[simp] theorem isi_ss {b : Str} : fIsi "str" (.str b) = some (.bl true) := by rfl
@[simp] theorem isi_sn : fIsi "str" .non = some (.bl false) := by rfl
theorem rng1_ok {j : Int} (h : j < 4611686018427387904 ∧ -4611686018427387904 ≤ j) : rng1 (.int j) = some (rng 0 j.toNat) := if_pos ⟨h.2, h.1⟩
theorem rng2_ok {i j : Int} (g : i < 4611686018427387904 ∧ -4611686018427387904 ≤ i) (h : j < 4611686018427387904 ∧ -4611686018427387904 ≤ j) : rng2 (.int i) (.int j) = some (rng i (j - i).toNat) := if_pos ⟨⟨g.2, g.1⟩, ⟨h.2, h.1⟩⟩
@[simp] theorem rng_len {i : Int} {n : Nat} : (rng i n).length = n := by unfold rng; rw [List.length_map, List.length_range]
@[simp] theorem signs_len {z : Str} : (signs z).length = z.length := by unfold signs; rw [List.length_map]; rfl
theorem join_len0 {zs : List Str} : (Txt.join "" zs).length = (zs.map (·.length)).sum := by
  show (PySem.Builtin.Str.glued "" zs).length = _
  have l0 : ("" : Str).length = 0 := by decide
  rw [PySem.size_glued, l0]; omega
/-- texts of one sign glued -/
theorem fJoin_0 {zs : List Str} (h : (zs.map (·.length)).sum ≤ 16777216) : fJoin (.str "") (.lst (zs.map .str)) = some (.str (Txt.join "" zs)) := by
  have l0 : ("" : Str).length = 0 := by decide
  unfold fJoin
  simp only [strs_map, Option.bind_some]
  rw [if_pos]
  unfold joinOk
  rw [l0]
  exact decide_eq_true (by omega)
theorem sum_ones {zs : List Str} (n2 : ∀ z ∈ zs, z.length = 1) : (zs.map (·.length)).sum = zs.length := by
  induction zs with
  | nil => rfl
  | cons z zs ih => rw [List.map_cons, List.sum_cons, ih fun z m => n2 z (List.mem_cons_of_mem _ m), n2 z List.mem_cons_self, List.length_cons]; omega
end Eng

end
section
set_option Elab.async false
set_option linter.all false
set_option maxRecDepth 100000
set_option maxHeartbeats 4000000
/-! owned slots, dicts, fields: more rules for simp -/
namespace Eng
open PySem PySem.Spec L2
@[simp] theorem frL_nil : frL [] = [] := by rfl
@[simp] theorem frL_n {L : Sl} : frL (none :: L) = none :: frL L := by rfl
@[simp] theorem frL_s {L : Sl} {o : O} : frL (some o :: L) = some (.v o.fr) :: frL L := by rfl
@[simp] theorem frL_m {L : Sl} {d : Option D} : frL (d.map O.v :: L) = d.map O.v :: frL L := by cases d <;> rfl
@[simp] theorem fr_mk {os : List (Key × O)} : (O.mk os).fr = .dk (O.frK os) := by rfl
@[simp] theorem fr_mq {os : List (List Key × O)} : (O.mq os).fr = .dt (O.frT os) := by rfl
@[simp] theorem fr_mt {os : List O} : (O.mt os).fr = .tup (O.frA os) := by rfl
@[simp] theorem fr_mi {p : Bool} {c : Str} {os : List (Str × O)} : (O.mi p c os).fr = .ins c (O.frF os) := by rfl
@[simp] theorem frF_nil : O.frF [] = [] := by rfl
@[simp] theorem frF_cons {x : Str} {o : O} {os : List (Str × O)} : O.frF ((x, o) :: os) = (x, o.fr) :: O.frF os := by rfl
theorem vOk_pl {L : Sl} {p : Bool → Bool} (h : p false = true) : vOk L p = true := by unfold vOk; rw [h]; rfl
@[simp] theorem vOk_int {L : Sl} {i : Int} : vOk L (D.int i).pl = true := by rfl
@[simp] theorem vOk_bl {L : Sl} {i : Bool} : vOk L (D.bl i).pl = true := by rfl
@[simp] theorem vOk_str {L : Sl} {i : Str} : vOk L (D.str i).pl = true := by rfl
@[simp] theorem vOk_non {L : Sl} : vOk L D.non.pl = true := by rfl
@[simp] theorem vOkO_v {L : Sl} {d : D} : vOk L (O.v d).pl = vOk L d.pl := by rfl
theorem forGo_step {tg : D → Sl → Option Sl} {body : Sl → RS} {L L1 L2 : Sl} {x : D} {xs : List D} (e1 : tg x L = some L1) (e2 : body L1 = .next L2) : forGo tg body L (x :: xs) = forGo tg body L2 xs := by
  rw [forGo, e1]; dsimp only; rw [e2]
@[simp] theorem forGo_nil {tg : D → Sl → Option Sl} {body : Sl → RS} {L : Sl} : forGo tg body L [] = .next L := by rfl
@[simp] theorem ap_sApp {i : Nat} {m : Sl → R O} {L : Sl} : sApp i m L = (match L[i]? with
  | some (some (.ml _)) => bindS (m L) (fun o L => match L[i]? with | some (some (.ml os)) => if os.length < 16777216 then .next (L.set i (some (.ml (os ++ [o])))) else .stuck | _ => .stuck) L
  | _ => .stuck) := by rfl
@[simp] theorem ap_sPut {i : Nat} {mk mv : Sl → R D} {L : Sl} : sPut i mk mv L = bindS (mv L) (fun v L => match L[i]? with
  | some (some o) => bindS (mk L) (fun k L => match dput o k v with | some o' => .next (L.set i (some o')) | none => .stuck) L
  | _ => .stuck) L := by rfl
@[simp] theorem ap_iNil {L : Sl} : iNil L = .ok [] := by rfl
@[simp] theorem ap_iMv {i : Nat} {r : Sl → R (List (Nat ⊕ D))} {L : Sl} : iMv i r L = (match L[i]? with | some (some _) => (r L).bind fun xs => .ok (.inl i :: xs) | _ => .stuck) := by rfl
@[simp] theorem ap_iEx {m : Sl → R D} {r : Sl → R (List (Nat ⊕ D))} {L : Sl} : iEx m r L = (m L).bind fun d => (r L).bind fun xs => .ok (.inr d :: xs) := by rfl
@[simp] theorem ap_mvNil {L : Sl} : moves [] L = some ([], L) := by rfl
@[simp] theorem ap_mvMv {i : Nat} {xs : List (Nat ⊕ D)} {L : Sl} : moves (.inl i :: xs) L = (match L[i]? with | some (some o) => if okSet L i = true then (moves xs (L.set i none)).map fun p => (o :: p.1, p.2) else none | _ => none) := by rfl
@[simp] theorem ap_mvEx {d : D} {xs : List (Nat ⊕ D)} {L : Sl} : moves (.inr d :: xs) L = (moves xs L).map fun p => (.v d :: p.1, p.2) := by rfl
@[simp] theorem ap_sRetT {m : Sl → R (List (Nat ⊕ D))} {L : Sl} : sRetT m L = bindS (m L) (fun xs L => if xs.length ≤ 16777216 then (match moves xs L with | some (os, L') => .ret (.mt os) L' | none => .stuck) else .stuck) L := by rfl
@[simp] theorem ap_sAppIx {i c : Nat} {m : Sl → R O} {L : Sl} : sAppIx i c m L = (match L[i]? with
  | some (some (.mt os)) => (match os[c]? with
    | some (.ml _) => bindS (m L) (fun o L => match L[i]? with
      | some (some (.mt os)) => (match os[c]? with | some (.ml ps) => if ps.length < 16777216 then .next (L.set i (some (.mt (os.set c (.ml (ps ++ [o])))))) else .stuck | _ => .stuck)
      | _ => .stuck) L
    | _ => .stuck)
  | _ => .stuck) := by rfl
@[simp] theorem ok_0mt {L : Sl} {d : List O} : okSet (some (.mt d) :: L) 0 = true := by rfl
@[simp] theorem ap_mRepL {m : Sl → R (List D)} {mb : Sl → R D} {L : Sl} : mRepL m mb L = (m L).bind fun ds => if ds.length ≤ 1000 then (mb L).bind fun y => (match y with
  | .int k => if 0 ≤ k ∧ k ≤ 1000 then .ok (.ml ((List.replicate k.toNat ds).flatten.map .v)) else .stuck
  | _ => .stuck) else .stuck := by rfl
@[simp] theorem ap_sExt {i : Nat} {m : Sl → R O} {L : Sl} : sExt i m L = (match L[i]? with
  | some (some (.ml _)) => bindS (m L) (fun o L => match L[i]?, o with | some (some (.ml os)), .ml ps => if os.length + ps.length ≤ 16777216 then .next (L.set i (some (.ml (os ++ ps)))) else .stuck | _, _ => .stuck) L
  | _ => .stuck) := by rfl
@[simp] theorem ap_oNil {L : Sl} : oNil L = .ok [] := by rfl
@[simp] theorem ap_oCons {m : Sl → R O} {r : Sl → R (List O)} {L : Sl} : oCons m r L = (m L).bind fun o => (r L).bind fun os => .ok (o :: os) := by rfl
@[simp] theorem ap_mLstO {m : Sl → R (List O)} {L : Sl} : mLstO m L = (m L).bind fun os => if os.length ≤ 16777216 then .ok (.ml os) else .stuck := by rfl
@[simp] theorem ap_mvNil2 {j : Nat} {body : Sl → RS} {L : Sl} : mvGo j body L [] = .next L := by rfl
@[simp] theorem ap_sForMv {i j : Nat} {body : Sl → RS} {L : Sl} : sForMv i j body L = (match L[i]? with
  | some (some (.ml os)) => if okSet L i = true then mvGo j body (L.set i none) os else .stuck
  | _ => .stuck) := by rfl
theorem mvGo_step {j : Nat} {body : Sl → RS} {L L2 : Sl} {o : O} {os : List O} (h : okSet L j = true) (e : body (L.set j (some o)) = .next L2) : mvGo j body L (o :: os) = mvGo j body L2 os := by
  rw [mvGo, if_pos h, e]
@[simp] theorem ap_sM0 {i : Nat} {f : List O → List O} {L : Sl} : sM0 i f L = (match L[i]? with
  | some (some (.ml os)) => .next (L.set i (some (.ml (f os))))
  | _ => .stuck) := by rfl
@[simp] theorem ap_sSub {i : Nat} {mk mv : Sl → R D} {L : Sl} : sSub i mk mv L = bindS (mv L) (fun d L => match L[i]? with
  | some (some (.ml os)) => bindS (mk L) (fun k L => match k with
    | .int n => (match ixN os.length n with | some j => .next (L.set i (some (.ml (os.set j (.v d))))) | none => .stuck)
    | _ => .stuck) L
  | _ => .stuck) L := by rfl
@[simp] theorem ap_sRetX {i : Nat} {L : Sl} : sRetX i L = (match L[i]? with | some (some o) => if okSet L i = true then .ret o (L.set i none) else .stuck | _ => .stuck) := by rfl
@[simp] theorem ap_sFrz {i : Nat} {k : Sl → RS} {L : Sl} : sFrz i k L = (match L[i]? with | some (some o) => if okSet L i = true then k (L.set i (some (.v o.fr))) else .stuck | _ => .stuck) := by rfl
@[simp] theorem ap_sFSet {i : Nat} {cs : List Str} {f : Str} {m : Sl → R O} {L : Sl} : sFSet i cs f m L = bindS (m L) (fun o L => match L[i]? with
  | some (some (.mi p c fs)) => if c ∈ cs ∧ fs.length < 1000 then .next (L.set i (some (.mi p c (putFO f o fs)))) else .stuck
  | _ => .stuck) L := by rfl
@[simp] theorem ap_sAug {i : Nat} {f : D → D → Option D} {m : Sl → R D} {L : Sl} : sAug i f m L = (match L[i]? with
  | some (some (.v x)) => bindS (m L) (fun y L => match f x y with | some z => if okSet L i = true then .next (L.set i (some (.v z))) else .stuck | none => .stuck) L
  | _ => .stuck) := by rfl
@[simp] theorem ap_sPar {i j : Nat} {a b : Sl → R D} {L : Sl} : sPar i j a b L = bindS (a L) (fun x L => bindS (b L) (fun y L => if okSet L i = true ∧ okSet L j = true then .next ((L.set i (some (.v x))).set j (some (.v y))) else .stuck) L) L := by rfl
@[simp] theorem ap_get1 {a k : Sl → R D} {L : Sl} : mGet1 a k L = (a L).bind fun d => if isDct d = true then (k L).bind fun y => lift ((getD? d y).map fun o => o.getD .non) else .stuck := by rfl
@[simp] theorem ap_get2 {a k x : Sl → R D} {L : Sl} : mGet2 a k x L = (a L).bind fun d => if isDct d = true then (k L).bind fun y => (x L).bind fun z => lift ((getD? d y).map fun o => o.getD z) else .stuck := by rfl
@[simp] theorem ap_putTup {n : Nat} {r : List D → Sl → Option Sl} {ds : List D} {L : Sl} : putTup n r (.tup ds) L = if ds.length = n then r ds L else none := by rfl
@[simp] theorem ap_putTupL {n : Nat} {r : List D → Sl → Option Sl} {ds : List D} {L : Sl} : putTup n r (.lst ds) L = if ds.length = n then r ds L else none := by rfl
@[simp] theorem fPow_8 : fPow (.int 10) (.int 8) = some (.int 100000000) := by rfl
@[simp] theorem fPow_6 : fPow (.int 10) (.int 6) = some (.int 1000000) := by rfl
@[simp] theorem fPow_9 : fPow (.int 10) (.int 9) = some (.int 1000000000) := by rfl
@[simp] theorem fPow_10 : fPow (.int 10) (.int 10) = some (.int 10000000000) := by rfl
@[simp] theorem fPow_11 : fPow (.int 10) (.int 11) = some (.int 100000000000) := by rfl
@[simp] theorem fPow_12 : fPow (.int 10) (.int 12) = some (.int 1000000000000) := by rfl
@[simp] theorem fTuple_l {ds : List D} : fTuple [.lst ds] = some (.tup ds) := by rfl
@[simp] theorem fTuple_t {ds : List D} : fTuple [.tup ds] = some (.tup ds) := by rfl
@[simp] theorem fList_l {ds : List D} : fList [.lst ds] = some (.ml (ds.map .v)) := by rfl
@[simp] theorem fList_t {ds : List D} : fList [.tup ds] = some (.ml (ds.map .v)) := by rfl
@[simp] theorem fInt_i {i : Int} : fInt [.int i] = some (.int i) := by rfl
@[simp] theorem fInt_b {b : Bool} : fInt [.bl b] = some (.int (if b then 1 else 0)) := by rfl
@[simp] theorem fMax_2 {i j : Int} : fMax [.int i, .int j] = some (.int (max i j)) := by rfl
@[simp] theorem fMin_2 {i j : Int} : fMin [.int i, .int j] = some (.int (min i j)) := by rfl
@[simp] theorem fIs_nn : fIs .non .non = some (.bl true) := by rfl
@[simp] theorem fIs_in {i : Int} : fIs (.int i) .non = some (.bl false) := by rfl
@[simp] theorem fIs_sn {i : Str} : fIs (.str i) .non = some (.bl false) := by rfl
@[simp] theorem fIs_tn {i : List D} : fIs (.tup i) .non = some (.bl false) := by rfl
@[simp] theorem fIsN_nn : fIsN .non .non = some (.bl false) := by rfl
@[simp] theorem fIsN_in {i : Int} : fIsN (.int i) .non = some (.bl true) := by rfl
@[simp] theorem isD_dk {ds : List (Key × D)} : isDct (.dk ds) = true := by rfl
@[simp] theorem isD_dt {ds : List (List Key × D)} : isDct (.dt ds) = true := by rfl
@[simp] theorem get_ks {ds : List (Key × D)} {z : Str} : getD? (.dk ds) (.str z) = some (valD ds (.inr z)) := by rfl
@[simp] theorem get_ki {ds : List (Key × D)} {z : Int} : getD? (.dk ds) (.int z) = some (valD ds (.inl z)) := by rfl
theorem fIn_dk {ds : List (Key × D)} {z : Str} : fIn (.str z) (.dk ds) = some (.bl (valD ds (.inr z)).isSome) := by rfl
theorem at_lit {α : Type} {xs : List α} {n : Nat} {x : α} (h : xs[n]? = some x) : atI xs (n : Int) = some x := by
  have : n < xs.length := (List.getElem?_eq_some_iff.mp h).1
  rw [atI_nn (by omega) (by omega)]; simpa using h
@[simp] theorem at_0 {α : Type} {x : α} {xs : List α} : atI (x :: xs) 0 = some x := at_lit (n := 0) rfl
@[simp] theorem at_1 {α : Type} {x y : α} {xs : List α} : atI (y :: x :: xs) 1 = some x := at_lit (n := 1) rfl
@[simp] theorem at_2 {α : Type} {x y z : α} {xs : List α} : atI (y :: z :: x :: xs) 2 = some x := at_lit (n := 2) rfl
@[simp] theorem at_3 {α : Type} {x y z w : α} {xs : List α} : atI (y :: z :: w :: x :: xs) 3 = some x := at_lit (n := 3) rfl
@[simp] theorem at_4 {α : Type} {x y z w u : α} {xs : List α} : atI (y :: z :: w :: u :: x :: xs) 4 = some x := at_lit (n := 4) rfl
/-- one of some numbers -/
theorem pickI {ns : List Int} {ds : List D} {i : Int} {P : Int → Prop} (e : intsD ds = some ns) (h : 0 ≤ i) (h2 : i < ns.length) (hp : ∀ n ∈ ns, P n) : ∃ v, atI ds i = some (.int v) ∧ P v := by
  refine ⟨_, fIx_ints e h h2, ?_⟩
  unfold nth
  rw [List.getD, List.getElem?_eq_getElem (by omega)]
  exact hp _ (List.getElem_mem _)
theorem pick {ds : List D} {i : Int} {P : D → Prop} (h : 0 ≤ i) (h2 : i < ds.length) (hp : ∀ n ∈ ds, P n) : ∃ v, atI ds i = some v ∧ P v := by
  have : i.toNat < ds.length := by omega
  exact ⟨ds[i.toNat], by rw [atI_nn h h2, List.getElem?_eq_getElem this], hp _ (List.getElem_mem _)⟩
theorem putFO_new {f : Str} {o : O} : ∀ {fs : List (Str × O)}, (fs.map (·.1)).contains f = false → putFO f o fs = fs ++ [(f, o)]
  | [], _ => rfl
  | (g, x) :: fs, h => by
    simp only [List.map_cons, List.contains_cons, Bool.or_eq_false_iff] at h
    have h1 : ¬ g = f := fun e => by rw [e] at h; simp at h
    rw [putFO, if_neg h1, putFO_new h.2]; rfl
theorem fset_new {f c : Str} {cs ns : List Str} {o : O} {fs : List (Str × O)} {m : Sl → R O} {L : Sl} (hc : c ∈ cs) (hn : fs.map (·.1) = ns) (hl : ns.length < 1000) (hf : ns.contains f = false) (hm : m (some (.mi true c fs) :: L) = .ok o) :
    sFSet 0 cs f m (some (.mi true c fs) :: L) = .next (some (.mi true c (fs ++ [(f, o)])) :: L) := by
  rw [ap_sFSet, hm, bs_ok]
  have : fs.length < 1000 := by rw [← List.length_map (f := (·.1)), hn]; exact hl
  have e : putFO f o fs = fs ++ [(f, o)] := putFO_new (by rw [hn]; exact hf)
  simp [hc, this, e]
/-- whole numbers one behind the other -/
def cnt (i r : Nat) : List D := (List.range' i r).map fun (k : Nat) => D.int (k : Int)
@[simp] theorem cnt_0 {i : Nat} : cnt i 0 = [] := by rfl
theorem cnt_S {i r : Nat} : cnt i (r + 1) = .int (i : Int) :: cnt (i + 1) r := by unfold cnt; rw [List.range'_succ]; rfl
theorem rng_cnt {n : Nat} : rng 0 n = cnt 0 n := by
  unfold rng cnt
  rw [List.range_eq_range']
  simp
theorem rng1_cnt {n : Nat} (h : n < 1000000000) : rng1 (.int (n : Int)) = some (cnt 0 n) := by
  rw [rng1_ok ⟨by omega, by omega⟩, ← rng_cnt]; rfl
@[simp] theorem cnt_len {i n : Nat} : (cnt i n).length = n := by unfold cnt; simp
/-- numbered things -/
def nums (i : Nat) (ds : List D) : List D := (ds.zipIdx i).map fun p => .tup [.int (p.2 : Int), p.1]
theorem enum_nums {ds : List D} : enumD ds = nums 0 ds := rfl
@[simp] theorem nums_0 {i : Nat} : nums i [] = [] := by rfl
theorem nums_S {i : Nat} {d : D} {ds : List D} : nums i (d :: ds) = .tup [.int (i : Int), d] :: nums (i + 1) ds := by unfold nums; rw [List.zipIdx_cons]; rfl
end Eng

end
section
set_option Elab.async false
set_option linter.all false
set_option maxRecDepth 100000
set_option maxHeartbeats 4000000
/-! comparing data -/
namespace Eng
open PySem PySem.Spec L2
/-- numbers, texts, None, in tuples and lists at most n deep -/
inductive Pn : Nat → D → Prop
  | non {n : Nat} : Pn n .non
  | int {n : Nat} {i : Int} : Pn n (.int i)
  | str {n : Nat} {z : Str} : Pn n (.str z)
  | tup {n : Nat} {xs : List D} : (∀ x ∈ xs, Pn n x) → Pn (n + 1) (.tup xs)
  | lst {n : Nat} {xs : List D} : (∀ x ∈ xs, Pn n x) → Pn (n + 1) (.lst xs)
theorem pyA_of {n : Nat} : ∀ {xs : List D}, (∀ x ∈ xs, ∃ p, x.py = some p ∧ p.depth ≤ n) → ∃ ps, D.pyA xs = some ps ∧ PyData.depthAll ps ≤ n
  | [], _ => ⟨[], rfl, Nat.zero_le _⟩
  | x :: xs, h => by
    obtain ⟨p, e1, d1⟩ := h x List.mem_cons_self
    obtain ⟨ps, e2, d2⟩ := pyA_of (xs := xs) fun y m => h y (List.mem_cons_of_mem _ m)
    refine ⟨p :: ps, ?_, ?_⟩
    · unfold D.pyA; rw [e1, e2]; rfl
    · simp only [PyData.depthAll]; omega
theorem Pn.py {n : Nat} {d : D} (h : Pn n d) : ∃ p, d.py = some p ∧ p.depth ≤ n + 1 := by
  induction h with
  | non => exact ⟨_, rfl, by simp [PyData.depth]⟩
  | int => exact ⟨_, rfl, by simp [PyData.depth]⟩
  | str => exact ⟨_, rfl, by simp [PyData.depth]⟩
  | tup _ ih =>
    obtain ⟨ps, e, h⟩ := pyA_of ih
    exact ⟨_, by unfold D.py; rw [e]; rfl, by simp only [PyData.depth]; omega⟩
  | lst _ ih =>
    obtain ⟨ps, e, h⟩ := pyA_of ih
    exact ⟨_, by unfold D.py; rw [e]; rfl, by simp only [PyData.depth]; omega⟩
theorem Pn.eqv {n m : Nat} {x y : D} (h : Pn n x) (g : Pn m y) : ∀ {p q : PyData}, x.py = some p → y.py = some q → (PyData.eqv p q = true ↔ x = y) := by
  have all : ∀ {n m : Nat} {xs ys : List D}, (∀ x ∈ xs, ∀ {m : Nat} {y : D}, Pn m y → ∀ {p q : PyData}, x.py = some p → y.py = some q → (PyData.eqv p q = true ↔ x = y)) → (∀ y ∈ ys, Pn m y) →
      ∀ {ps qs : List PyData}, D.pyA xs = some ps → D.pyA ys = some qs → (PyData.eqvAll ps qs = true ↔ xs = ys) := by
    intro n m xs
    induction xs with
    | nil =>
      intro ys _ _ ps qs e1 e2
      cases e1
      cases ys with
      | nil => cases e2; simp [PyData.eqvAll]
      | cons y ys =>
        unfold D.pyA at e2
        obtain ⟨q, _, e4⟩ := bind_some e2
        obtain ⟨qs', _, rfl⟩ := map_some e4
        simp [PyData.eqvAll]
    | cons x xs ih =>
      intro ys hx hy ps qs e1 e2
      unfold D.pyA at e1
      obtain ⟨p, e3, e4⟩ := bind_some e1
      obtain ⟨ps', e5, rfl⟩ := map_some e4
      cases ys with
      | nil => cases e2; simp [PyData.eqvAll]
      | cons y ys =>
        unfold D.pyA at e2
        obtain ⟨q, e6, e7⟩ := bind_some e2
        obtain ⟨qs', e8, rfl⟩ := map_some e7
        have i1 := hx x List.mem_cons_self (hy y List.mem_cons_self) e3 e6
        have i2 := ih (fun z m => hx z (List.mem_cons_of_mem _ m)) (fun z m => hy z (List.mem_cons_of_mem _ m)) e5 e8
        simp only [PyData.eqvAll, Bool.and_eq_true, i1, i2, List.cons.injEq]
  induction h generalizing m y with
  | non => intro p q e1 e2; cases e1; cases g <;> (first | (cases e2; simp [PyData.eqv]) | (unfold D.py at e2; obtain ⟨qs, _, rfl⟩ := map_some e2; simp [PyData.eqv]))
  | int => intro p q e1 e2; cases e1; cases g <;> (first | (cases e2; simp [PyData.eqv]) | (unfold D.py at e2; obtain ⟨qs, _, rfl⟩ := map_some e2; simp [PyData.eqv]))
  | str => intro p q e1 e2; cases e1; cases g <;> (first | (cases e2; simp [PyData.eqv]) | (unfold D.py at e2; obtain ⟨qs, _, rfl⟩ := map_some e2; simp [PyData.eqv]))
  | @tup k xs hx ih =>
    intro p q e1 e2
    unfold D.py at e1
    obtain ⟨ps, e3, rfl⟩ := map_some e1
    cases g with
    | non => cases e2; simp [PyData.eqv]
    | int => cases e2; simp [PyData.eqv]
    | str => cases e2; simp [PyData.eqv]
    | tup hy =>
      unfold D.py at e2
      obtain ⟨qs, e4, rfl⟩ := map_some e2
      have := all (n := k) (fun x mx => ih x mx) hy e3 e4
      simp only [PyData.eqv, this, D.tup.injEq]
    | lst hy =>
      unfold D.py at e2
      obtain ⟨qs, e4, rfl⟩ := map_some e2
      simp [PyData.eqv]
  | @lst k xs hx ih =>
    intro p q e1 e2
    unfold D.py at e1
    obtain ⟨ps, e3, rfl⟩ := map_some e1
    cases g with
    | non => cases e2; simp [PyData.eqv]
    | int => cases e2; simp [PyData.eqv]
    | str => cases e2; simp [PyData.eqv]
    | lst hy =>
      unfold D.py at e2
      obtain ⟨qs, e4, rfl⟩ := map_some e2
      have := all (n := k) (fun x mx => ih x mx) hy e3 e4
      simp only [PyData.eqv, this, D.lst.injEq]
    | tup hy =>
      unfold D.py at e2
      obtain ⟨qs, e4, rfl⟩ := map_some e2
      simp [PyData.eqv]
open Classical in
theorem Pn.eqD {n m : Nat} {x y : D} (h : Pn n x) (g : Pn m y) (hn : n ≤ 50) : eqD x y = some (decide (x = y)) := by
  obtain ⟨p, e1, d1⟩ := h.py
  obtain ⟨q, e2, d2⟩ := g.py
  have k := h.eqv g e1 e2
  have k2 : PyData.eqv p q = decide (x = y) := by
    by_cases c : x = y
    · rw [decide_eq_true c]; exact k.mpr c
    · rw [decide_eq_false c]
      cases e : PyData.eqv p q with
      | false => rfl
      | true => exact absurd (k.mp e) c
  unfold Eng.eqD
  split
  · cases e1; cases e2; simp
  · cases e1; cases e2; simp
  · cases h
  · rw [e1, e2]
    dsimp only
    rw [if_pos (by omega), k2]
theorem Pn.eq_self {n : Nat} {x : D} (h : Pn n x) (hn : n ≤ 50) : fEq x x = some (.bl true) := by unfold fEq; rw [h.eqD h hn]; simp
theorem Pn.ne_self {n : Nat} {x : D} (h : Pn n x) (hn : n ≤ 50) : fNe x x = some (.bl false) := by unfold fNe; rw [h.eqD h hn]; simp
open Classical in
theorem Pn.eq {n m : Nat} {x y : D} (h : Pn n x) (g : Pn m y) (hn : n ≤ 50) : fEq x y = some (.bl (decide (x = y))) := by unfold fEq; rw [h.eqD g hn]; rfl
open Classical in
theorem Pn.ne {n m : Nat} {x y : D} (h : Pn n x) (g : Pn m y) (hn : n ≤ 50) : fNe x y = some (.bl (!decide (x = y))) := by unfold fNe; rw [h.eqD g hn]; rfl
theorem Pn.up {n : Nat} {x : D} (h : Pn n x) : Pn (n + 1) x := by
  induction h with
  | non => exact .non
  | int => exact .int
  | str => exact .str
  | tup _ ih => exact .tup ih
  | lst _ ih => exact .lst ih
end Eng

end
section
set_option Elab.async false
set_option linter.all false
/-! running: try, isinstance of errors, dropped values -/
namespace Eng
open PySem PySem.Spec PyProof.Rows L2
def tryR (M : List (Str × Str × Bool)) (hs : List Hd) : RS → RS
  | .exc c L' => hGo M hs c L'
  | r => r
@[simp] theorem ap_sTry {M : List (Str × Str × Bool)} {b : Sl → RS} {hs : List Hd} {L : Sl} : sTry M b hs L = tryR M hs (b L) := by rfl
@[simp] theorem try_next {M : List (Str × Str × Bool)} {hs : List Hd} {L : Sl} : tryR M hs (.next L) = .next L := by rfl
@[simp] theorem try_ret {M : List (Str × Str × Bool)} {hs : List Hd} {o : O} {L : Sl} : tryR M hs (.ret o L) = .ret o L := by rfl
@[simp] theorem try_exc {M : List (Str × Str × Bool)} {hs : List Hd} {c : Str} {L : Sl} : tryR M hs (.exc c L) = hGo M hs c L := by rfl
theorem hGo_as {M : List (Str × Str × Bool)} {h c : Str} {i : Nat} {su : Sl → RS} {r : List Hd} {L : Sl} (e : lookM M c h = some true) : hGo M (⟨h, some i, su⟩ :: r) c L = if okSet L i = true then offS i (su (L.set i (some (.v (.exn c []))))) else .stuck := by
  unfold hGo; rw [e]
theorem hGo_one {M : List (Str × Str × Bool)} {h c : Str} {su : Sl → RS} {r : List Hd} {L : Sl} (e : lookM M c h = some true) : hGo M (⟨h, none, su⟩ :: r) c L = noExc (su L) := by
  unfold hGo; rw [e]
theorem hGo_no {M : List (Str × Str × Bool)} {h c : Str} {s : Option Nat} {su : Sl → RS} {r : List Hd} {L : Sl} (e : lookM M c h = some false) : hGo M (⟨h, s, su⟩ :: r) c L = hGo M r c L := by
  rw [hGo.eq_def]; simp only [e]
@[simp] theorem off_next {i : Nat} {L : Sl} : offS i (.next L) = if isPin L i = true then .stuck else .next (L.set i none) := by rfl
@[simp] theorem off_ret {i : Nat} {o : O} {L : Sl} : offS i (.ret o L) = .ret o L := by rfl
@[simp] theorem noE_next {L : Sl} : noExc (.next L) = .next L := by rfl
@[simp] theorem noE_ret {o : O} {L : Sl} : noExc (.ret o L) = .ret o L := by rfl
@[simp] theorem ap_sDrop {m : Sl → R D} {L : Sl} : sDrop m L = bindS (m L) (fun _ L => .next L) L := by rfl
theorem isE_of {M : List (Str × Str × Bool)} {hs : List Str} {c : Str} {b : Bool} (e : anyIs M c hs = some b) : fIsE M hs (.exn c []) = some (.bl b) := by
  show Option.map D.bl (anyIs M c hs) = _; rw [e]; rfl
def thF (i : Nat) : RS → RS
  | .next L' => sFrz i .next L'
  | r => r
@[simp] theorem ap_sThF {i : Nat} {k : Sl → RS} {L : Sl} : sThF i k L = thF i (k L) := by rfl
@[simp] theorem thF_next {i : Nat} {L : Sl} : thF i (.next L) = sFrz i .next L := by rfl
@[simp] theorem pl_exn {i : Bool} {c : Str} {fs : List (Str × D)} : D.pl i (.exn c fs) = false := by rfl
end Eng

end
section
set_option Elab.async false
set_option linter.all false
/-! running: places -/
namespace Eng
open PySem PySem.Spec PyProof.Rows L2
@[simp] theorem ap_mVarP {i : Nat} {L : Sl} : mVarP i L = (match L[i]? with
  | some (some (.pin o)) => .ok ⟨i, [.un], o⟩
  | some (some o) => .ok ⟨i, [], o⟩
  | _ => .stuck) := by rfl
@[simp] theorem ap_mFldP {cs : List Str} {f : Str} {m : Sl → R Pq} {L : Sl} : mFldP cs f m L = (m L).bind fun q => match q.o.sub (.fld cs f) with | some o => .ok ⟨q.i, q.p ++ [.fld cs f], o⟩ | none => .stuck := by rfl
@[simp] theorem ap_mIxP {m : Sl → R Pq} {k : Sl → R D} {L : Sl} : mIxP m k L = (m L).bind fun q => (k L).bind fun d => match q.o.sub (.at d) with | some o => .ok ⟨q.i, q.p ++ [.at d], o⟩ | none => .stuck := by rfl
@[simp] theorem ap_mPl {m : Sl → R Pq} {L : Sl} : mPl m L = (m L).bind fun q => match q.o with | .v d => .ok d | _ => .stuck := by rfl
@[simp] theorem ap_sAppP {mp : Sl → R Pq} {m : Sl → R O} {L : Sl} : sAppP mp m L = bindS (mp L) (fun q => match q.o with
  | .ml os => fun L => bindS (m L) (fun o L => if os.length < 16777216 then .next (stPut L q.i q.p (.ml (os ++ [o]))) else .stuck) L
  | _ => fun _ => .stuck) L := by rfl
@[simp] theorem ap_sClrP {mp : Sl → R Pq} {L : Sl} : sClrP mp L = bindS (mp L) (fun q L => match q.o with
  | .ml _ => .next (stPut L q.i q.p (.ml []))
  | _ => .stuck) L := by rfl
@[simp] theorem ap_stPut {L : Sl} {i : Nat} {p : List Stp} {q : O} : stPut L i p q = (match L[i]? with | some (some o0) => L.set i (some (putP o0 p q)) | _ => L) := by rfl
@[simp] theorem put_nil {o q : O} : putP o [] q = q := by rfl
@[simp] theorem put_cons {o q : O} {s : Stp} {p : List Stp} : putP o (s :: p) q = (match o.sub s with | some o1 => o.sput s (putP o1 p q) | none => o) := by rfl
@[simp] theorem sub_ml {os : List O} {i : Int} : (O.ml os).sub (.at (.int i)) = atI os i := by rfl
@[simp] theorem sub_mt {os : List O} {i : Int} : (O.mt os).sub (.at (.int i)) = atI os i := by rfl
@[simp] theorem sub_mi {p : Bool} {c f : Str} {cs : List Str} {os : List (Str × O)} : (O.mi p c os).sub (.fld cs f) = if c ∈ cs then lookA os f else none := by rfl
@[simp] theorem sub_pin {o : O} : (O.pin o).sub .un = some o := by rfl
@[simp] theorem put_ml {os : List O} {i : Int} {q : O} : (O.ml os).sput (.at (.int i)) q = (match ixN os.length i with | some j => .ml (os.set j q) | none => .ml os) := by rfl
@[simp] theorem put_mt {os : List O} {i : Int} {q : O} : (O.mt os).sput (.at (.int i)) q = (match ixN os.length i with | some j => .mt (os.set j q) | none => .mt os) := by rfl
@[simp] theorem put_mi {p : Bool} {c f : Str} {cs : List Str} {os : List (Str × O)} {q : O} : (O.mi p c os).sput (.fld cs f) q = .mi p c (setA os f q) := by rfl
@[simp] theorem put_pin {o q : O} : (O.pin o).sput .un q = .pin q := by rfl
@[simp] theorem ap_sFrE {i : Nat} {k : Sl → RS} {L : Sl} : sFrE i k L = (match L[i]? with | some (some (.ml os)) => k (L.set i (some (.ml ((O.frA os).map .v)))) | _ => .stuck) := by rfl
theorem isO_ins {c h : Str} {fs : List (Str × D)} (e : c = h) : fIsO h (.ins c fs) = some (.bl true) := by
  show (if c = h then some (D.bl true) else none) = _; rw [if_pos e]
@[simp] theorem isT_tup {ds : List D} : fIsT "tuple" (.tup ds) = some (.bl true) := by rfl
end Eng

end
section
set_option Elab.async false
set_option linter.all false
/-! running: sets of texts -/
namespace Eng
open PySem L2
theorem distR_nd : ∀ {zs : List Str}, zs.Nodup → distR zs = zs.length
  | [], _ => rfl
  | z :: zs, h => by
    obtain ⟨h1, h2⟩ := List.nodup_cons.mp h
    have ih := distR_nd h2
    unfold distR
    rw [if_neg h1, ih, List.length_cons]
theorem distR_dup : ∀ {zs : List Str}, ¬ zs.Nodup → distR zs < zs.length
  | [], h => absurd List.nodup_nil h
  | z :: zs, h => by
    have le := distR_le zs
    unfold distR
    rw [List.length_cons]
    by_cases c : z ∈ zs
    · rw [if_pos c]; omega
    · rw [if_neg c]
      have := distR_dup (zs := zs) fun n => h (List.nodup_cons.mpr ⟨c, n⟩)
      omega
theorem lenSet_of {zs : List Str} (h : zs.length ≤ 1000) : fLenSet (.tup (zs.map .str)) = some (.int (dist zs)) := by
  unfold fLenSet
  dsimp only
  rw [strs_map, Option.bind_some, if_pos h]
theorem lenSet_nd {zs : List Str} (n : zs.Nodup) (h : zs.length ≤ 1000) : fLenSet (.tup (zs.map .str)) = some (.int zs.length) := by
  rw [lenSet_of h]
  unfold dist
  rw [distR_nd (List.pairwise_reverse.mpr (n.imp fun h => h.symm)), List.length_reverse]
theorem lenSet_dup {zs : List Str} (n : ¬ zs.Nodup) (h : zs.length ≤ 1000) : ∃ k : Nat, k < zs.length ∧ fLenSet (.tup (zs.map .str)) = some (.int k) := by
  refine ⟨dist zs, ?_, lenSet_of h⟩
  have := distR_dup (zs := zs.reverse) fun z => n (by have := List.pairwise_reverse.mp z; exact this.imp fun h => h.symm)
  rw [List.length_reverse] at this
  exact this
end Eng

end
section
set_option Elab.async false
set_option linter.all false
/-! running: dict displays -/
namespace Eng
open PySem L2
@[simp] theorem ap_mDisp {m : Sl → R (List (Str × D))} {L : Sl} : mDisp m L = (m L).bind fun ds => if (ds.map (·.1)).Nodup ∧ ds.length ≤ 15 then .ok (.mk (ds.map fun p => (.inr p.1, .v p.2))) else .stuck := by rfl
@[simp] theorem fMulR_t {ds : List D} {y : D} : fMulR (.tup ds) y = fRep (.tup ds) y := by rfl
@[simp] theorem ap_mPNil {L : Sl} : mPNil L = .ok [] := by rfl
@[simp] theorem ap_mPCons {z : Str} {m : Sl → R D} {r : Sl → R (List (Str × D))} {L : Sl} : mPCons z m r L = (m L).bind fun d => (r L).bind fun ds => .ok ((z, d) :: ds) := by rfl
end Eng

end
section
set_option Elab.async false
set_option linter.all false
/-! running: ranges with a step -/
namespace Eng
open PySem L2
@[simp] theorem ap_mRg3 {a b c : Sl → R D} {L : Sl} : mRg3 a b c L = (a L).bind fun x => (b L).bind fun y => (c L).bind fun z => lift (rng3 x y z) := by rfl
theorem rng3_ok {i j c : Int} (h : (-1000000000000 ≤ i ∧ i ≤ 1000000000000) ∧ (-1000000000000 ≤ j ∧ j ≤ 1000000000000) ∧ (c = -1 ∨ (1 ≤ c ∧ c ≤ 1000))) : rng3 (.int i) (.int j) (.int c) = some (rngC i c (stepN i j c)) := if_pos h
end Eng

end
section
set_option Elab.async false
set_option linter.all false
/-! running: texts -/
namespace Eng
open PySem L2
@[simp] theorem fStrX_s {z : Str} : fStrX [.str z] = some (.str z) := by rfl
@[simp] theorem fStrX_i {i : Int} : fStrX [.int i] = fStr [.int i] := by rfl
@[simp] theorem fMulS_si {z : Str} {i : Int} : fMulS (.str z) (.int i) = if z.length ≤ 100 ∧ -1000 ≤ i ∧ i ≤ 1000 then some (.str (Txt.mul z i)) else none := by rfl
@[simp] theorem ap_mS1O {f : D → D → Option O} {a b : Sl → R D} {L : Sl} : mS1O f a b L = (a L).bind fun x => (lift (asS x)).bind fun _ => (b L).bind fun y => lift (f x y) := by rfl
theorem nat_log {n : Nat} (h : n < 1000000000000000) : n.log2 < 1920 := by
  by_cases c : n = 0
  · subst c; decide
  · have := (Nat.log2_lt (n := n) (k := 60) c).mpr (by omega)
    omega
/-- a small number as a text -/
theorem fStr_n {n : Nat} (h : n < 1000000000000000) : fStr [.int (n : Int)] = some (.str (toString (n : Int))) := if_pos (by simpa using nat_log h)
end Eng

end
section
set_option Elab.async false
set_option linter.all false
/-! running: loops that change the things of a list -/
namespace Eng
open PySem L2
@[simp] theorem ap_sSubP {mp : Sl → R Pq} {mk mv : Sl → R D} {L : Sl} : sSubP mp mk mv L = bindS (mv L) (fun d L => bindS (mp L) (fun q => match q.o with
  | .ml os => fun L => bindS (mk L) (fun k L => match k with
    | .int n => (match ixN os.length n with | some j => .next (stPut L q.i q.p (.ml (os.set j (.v d)))) | none => .stuck)
    | _ => .stuck) L
  | _ => fun _ => .stuck) L) L := by rfl
@[simp] theorem ap_sForEP {i kk j : Nat} {body : Sl → RS} {L : Sl} : sForEP i kk j body L = (match L[i]? with
  | some (some (.ml os)) => if okSet L i = true then epGo i kk j body os.length 0 os (L.set i (some (.pin (.v .opq)))) else .stuck
  | _ => .stuck) := by rfl
@[simp] theorem ap_mLcO {it : Sl → R (List D)} {vs : List Nat} {tg : D → Sl → Option Sl} {tst : Sl → R Bool} {el : Sl → R O} {L : Sl} : mLcO it vs tg tst el L = (it L).bind fun ds =>
  if ds.length ≤ 16777216 ∧ okW L vs = true then (match lcGoO tg tst el (wipeL L vs) ds with | .ok es => .ok (.ml es) | _ => .stuck) else .stuck := by rfl
theorem lcGoO_map {tg : D → Sl → Option Sl} {el : Sl → R O} {L : Sl} {α : Type} {f : α → D} {g : α → O} : ∀ {xs : List α}, (∀ x ∈ xs, ∃ L', tg (f x) L = some L' ∧ el L' = .ok (g x)) → lcGoO tg mYes el L (xs.map f) = .ok (xs.map g)
  | [], _ => rfl
  | x :: xs, h => by
    obtain ⟨L', e1, e2⟩ := h x List.mem_cons_self
    have e3 := lcGoO_map (f := f) (g := g) (xs := xs) fun z m => h z (List.mem_cons_of_mem _ m)
    rw [List.map_cons, List.map_cons]
    unfold lcGoO
    rw [e1, lift_some, bind_ok, ap_mYes, bind_ok, if_pos rfl, e2, bind_ok, e3, bind_ok]
end Eng

end
section
set_option Elab.async false
set_option linter.all false
/-! running: enumerate of lists and tuples -/
namespace Eng
open PySem L2
@[simp] theorem ap_mEnX {m : Sl → R D} {L : Sl} : mEnX m L = (m L).bind fun d => lift ((seqD d).map enumD) := by rfl
@[simp] theorem seqD_l {ds : List D} : seqD (.lst ds) = some ds := by rfl
@[simp] theorem seqD_t {ds : List D} : seqD (.tup ds) = some ds := by rfl
end Eng

end
section
set_option Elab.async false
set_option linter.all false
set_option maxRecDepth 100000
set_option maxHeartbeats 4000000

namespace K15
open PySem PySem.Spec PyProof.Rows L2 Eng
def topS (i : Nat) : Stmt := PySem.Challenge.pw_pointpurse_k15_whole_drawn_bit_by_bit.main.body.getD i (.Pass ⟨0, 0, 0, 0⟩)
def subS (s : Stmt) (j : Nat) : Stmt := match s with | .ClassDef _ _ _ body _ _ _ _ _ _ _ => body.getD j (.Pass ⟨0, 0, 0, 0⟩) | _ => s
abbrev s_turns_of : Stmt := topS 1
noncomputable def l_turns_of_0 : Sl → R D := (mVar 4)
noncomputable def l_turns_of_1 : Sl → R D := (mVar 4)
noncomputable def b_turns_of_0 : Sl → RS := (sExt 6 (mLc (mIt (mVar 3)) [4] (put 4) (mB (m2 fEq (m2 fIx (m2 fIx (mVar 0) (mVar 4)) (mC (.int 1))) (mVar 7))) l_turns_of_1))
noncomputable def m_turns_of : Sl → RS := (sSeq (sSet 3 (mFr (mLc (mEnX (mVar 0)) [4, 5] (putTup 2 (putCons (put 4) (putCons (put 5) putNil))) (mOr (mNot (mB (mVar 2))) (mB (m2 fEq (m2 fIx (mVar 5) (mC (.int 2))) (mC (.str ""))))) l_turns_of_0))) (sSeq (sSetO 6 (mLst mNil)) (sSeq (sFor (mIt (mVar 1)) (put 7) b_turns_of_0) (sFrz 6 (sRet (m2 fAdd (mVar 6) (mVar 3)))))))
noncomputable def e_turns_of : FE := ⟨"turns_of", 1, 3, runD 8 m_turns_of 3⟩
noncomputable def g_turns_of : Gm := { N := ["row", "first", "own", "may", "place", "pile", "turns", "name"], sc := defScope s_turns_of, T := [], X := ["enumerate"], C := [], k := 0, st := fun _ => true, E := [], I := [], Q := [] }
theorem v_turns_of_0 : varB g_turns_of 0 "row" = true := by decide +kernel
theorem v_turns_of_1 : varB g_turns_of 1 "first" = true := by decide +kernel
theorem v_turns_of_3 : varB g_turns_of 3 "may" = true := by decide +kernel
theorem v_turns_of_6 : varB g_turns_of 6 "turns" = true := by decide +kernel
theorem w_turns_of_3 : stB g_turns_of 3 "may" = true := by decide +kernel
theorem w_turns_of_6 : stB g_turns_of 6 "turns" = true := by decide +kernel
theorem w_turns_of_7 : stB g_turns_of 7 "name" = true := by decide +kernel
theorem c_turns_of {G : Gd} (gr : g_turns_of.Gr G) : CSs G g_turns_of (defBody s_turns_of) m_turns_of := (css_cons (cs_lcV w_turns_of_3 (by decide +kernel) (own := [("place", 4), ("pile", 5)]) (ci_enX gr (by decide +kernel) (ce_v v_turns_of_0)) (by decide +kernel) (by decide) (cg_tup rfl (cgs_cons rfl (cg_n (by decide +kernel)) (cgs_cons rfl (cg_n (by decide +kernel)) cgs_nil))) (cts_one (CW.ct (cw_or (ct_not (ct_val rfl (ce_v (by decide +kernel)))) (cw_or1 (ct_cmp o_eq rfl (ce_ix rfl (ce_v (by decide +kernel)) ce_int) ce_str))))) (ce_v (by decide +kernel)) rfl) (css_cons (cs_so w_turns_of_6 (by decide +kernel) (co_lst ca_nil)) (css_cons (cs_for rfl (ci_val (ce_v v_turns_of_1)) (cg_n w_turns_of_7) (css_one (cs_extA w_turns_of_6 (co_lc (own := [("place", 4)]) (ci_val (ce_v v_turns_of_3)) (by decide +kernel) (by decide) (cg_n (by decide +kernel)) (cts_one (ct_cmp o_eq rfl (ce_ix rfl (ce_ix rfl (ce_v (by decide +kernel)) (ce_v (by decide +kernel))) ce_int) (ce_v (by decide +kernel)))) (ce_v (by decide +kernel)) rfl)))) (css_one (cs_frz 6 (cs_ret (ce_bin o_add (ce_v v_turns_of_6) (ce_v v_turns_of_3))))))))
theorem sc_turns_of : FnScope g_turns_of.N ["row", "first", "own"] (defScope s_turns_of) := ⟨rfl, rfl, rfl, by decide +kernel, rfl, by decide +kernel, by decide +kernel⟩

abbrev s_drawn : Stmt := topS 2
noncomputable def b_drawn_0 : Sl → RS := (sIf (vT (mAnd (mB (m2 fNin (mVar 6) (mVar 4))) (mB (m2 fGt (mVar 5) (mC (.int 0)))))) (sSeq (sPut 4 (mVar 6) (mF fMin (mCons (mVar 5) (mCons (m2 fIx (m2 fIx (mVar 0) (mVar 6)) (mC (.int 3))) mNil)))) (sAug 5 fSub (vE (m2 fIx (mVar 4) (mVar 6))))) sNext)
noncomputable def b_drawn_1 : Sl → RS := (sSeq (sSet 13 (vE (mGet2 (mVar 4) (mVar 6) (mC (.int 0))))) (sSeq (sIf (mB (m2 fGt (mVar 13) (mC (.int 0)))) (sApp 7 (mV (mTup (mCons (mVar 9) (mCons (mVar 10) (mCons (mVar 11) (mCons (mVar 13) mNil))))))) sNext) (sIf (mB (m2 fLt (mVar 13) (mVar 12))) (sApp 8 (mV (mTup (mCons (mVar 9) (mCons (mVar 10) (mCons (mVar 11) (mCons (m2 fSub (mVar 12) (mVar 13)) mNil))))))) sNext)))
noncomputable def m_drawn : Sl → RS := (sSeq (sSetO 4 mNewK) (sSeq (sSet 5 (mVar 1)) (sSeq (sFor (mIt (mFr (mCall e_turns_of.fn (mCons (mVar 0) (mCons (mVar 2) (mCons (mVar 3) mNil)))))) (put 6) b_drawn_0) (sSeq (sSetO 7 (mLst mNil)) (sSeq (sSetO 8 (mLst mNil)) (sSeq (sFor (mEnX (mVar 0)) (putTup 2 (putCons (put 6) (putCons (putTup 4 (putCons (put 9) (putCons (put 10) (putCons (put 11) (putCons (put 12) putNil))))) putNil))) b_drawn_1) (sRetT (iMv 7 (iMv 8 iNil)))))))))
noncomputable def e_drawn : FE := ⟨"drawn", 2, 4, runD 14 m_drawn 4⟩
noncomputable def g_drawn : Gm := { N := ["row", "points", "first", "own", "gone", "wanted", "place", "taken", "left", "born", "source", "mark", "many", "less"], sc := defScope s_drawn, T := [e_turns_of], X := ["min", "enumerate"], C := [], k := 1, st := fun _ => true, E := [], I := [], Q := [] }
theorem v_drawn_1 : varB g_drawn 1 "points" = true := by decide +kernel
theorem v_drawn_3 : varB g_drawn 3 "own" = true := by decide +kernel
theorem v_drawn_2 : varB g_drawn 2 "first" = true := by decide +kernel
theorem v_drawn_0 : varB g_drawn 0 "row" = true := by decide +kernel
theorem v_drawn_6 : varB g_drawn 6 "place" = true := by decide +kernel
theorem v_drawn_4 : varB g_drawn 4 "gone" = true := by decide +kernel
theorem v_drawn_5 : varB g_drawn 5 "wanted" = true := by decide +kernel
theorem v_drawn_13 : varB g_drawn 13 "less" = true := by decide +kernel
theorem v_drawn_11 : varB g_drawn 11 "mark" = true := by decide +kernel
theorem v_drawn_10 : varB g_drawn 10 "source" = true := by decide +kernel
theorem v_drawn_9 : varB g_drawn 9 "born" = true := by decide +kernel
theorem v_drawn_12 : varB g_drawn 12 "many" = true := by decide +kernel
theorem w_drawn_4 : stB g_drawn 4 "gone" = true := by decide +kernel
theorem w_drawn_5 : stB g_drawn 5 "wanted" = true := by decide +kernel
theorem w_drawn_6 : stB g_drawn 6 "place" = true := by decide +kernel
theorem w_drawn_7 : stB g_drawn 7 "taken" = true := by decide +kernel
theorem w_drawn_8 : stB g_drawn 8 "left" = true := by decide +kernel
theorem w_drawn_12 : stB g_drawn 12 "many" = true := by decide +kernel
theorem w_drawn_11 : stB g_drawn 11 "mark" = true := by decide +kernel
theorem w_drawn_10 : stB g_drawn 10 "source" = true := by decide +kernel
theorem w_drawn_9 : stB g_drawn 9 "born" = true := by decide +kernel
theorem w_drawn_13 : stB g_drawn 13 "less" = true := by decide +kernel
theorem c_drawn {G : Gd} (gr : g_drawn.Gr G) : CSs G g_drawn (defBody s_drawn) m_drawn := (css_cons (cs_so w_drawn_4 (by decide +kernel) co_newK) (css_cons (cs_s w_drawn_5 (by decide +kernel) (ce_v v_drawn_1)) (css_cons (cs_for rfl (ci_val (ce_of_co (co_cn (e := e_turns_of) gr (.head _) (by decide +kernel) (ca_cons rfl (ce_v v_drawn_0) (ca_cons rfl (ce_v v_drawn_2) (ca_cons rfl (ce_v v_drawn_3) ca_nil)))))) (cg_n w_drawn_6) (css_one (cs_if (ct_view (CW.ct (cw_and (ct_cmp o_nin rfl (ce_v v_drawn_6) (ce_v v_drawn_4)) (cw_and1 (ct_cmp o_gt rfl (ce_v v_drawn_5) ce_int))))) (css_cons (cs_put v_drawn_4 (by decide +kernel) (ce_v v_drawn_6) (ce_bn gr b_min boot_min (by decide +kernel) (ca_cons rfl (ce_v v_drawn_5) (ca_cons rfl (ce_ix rfl (ce_ix rfl (ce_v v_drawn_0) (ce_v v_drawn_6)) ce_int) ca_nil)))) (css_one (cs_aug w_drawn_5 i_sub (ce_view (ce_ix rfl (ce_v v_drawn_4) (ce_v v_drawn_6)))))) css_nil))) (css_cons (cs_so w_drawn_7 (by decide +kernel) (co_lst ca_nil)) (css_cons (cs_so w_drawn_8 (by decide +kernel) (co_lst ca_nil)) (css_cons (cs_for rfl (ci_enX gr (by decide +kernel) (ce_v v_drawn_0)) (cg_tup rfl (cgs_cons rfl (cg_n w_drawn_6) (cgs_cons rfl (cg_tup rfl (cgs_cons rfl (cg_n w_drawn_9) (cgs_cons rfl (cg_n w_drawn_10) (cgs_cons rfl (cg_n w_drawn_11) (cgs_cons rfl (cg_n w_drawn_12) cgs_nil))))) cgs_nil))) (css_cons (cs_s w_drawn_13 (by decide +kernel) (ce_view (ce_get2 (by decide +kernel) (ce_v v_drawn_4) (ce_v v_drawn_6) ce_int))) (css_cons (cs_if (ct_cmp o_gt rfl (ce_v v_drawn_13) ce_int) (css_one (cs_app (by decide +kernel) (co_of_ce (ce_tup (ca_cons rfl (ce_v v_drawn_9) (ca_cons rfl (ce_v v_drawn_10) (ca_cons rfl (ce_v v_drawn_11) (ca_cons rfl (ce_v v_drawn_13) ca_nil)))))))) css_nil) (css_one (cs_if (ct_cmp o_lt rfl (ce_v v_drawn_13) (ce_v v_drawn_12)) (css_one (cs_app (by decide +kernel) (co_of_ce (ce_tup (ca_cons rfl (ce_v v_drawn_9) (ca_cons rfl (ce_v v_drawn_10) (ca_cons rfl (ce_v v_drawn_11) (ca_cons rfl (ce_bin o_sub (ce_v v_drawn_12) (ce_v v_drawn_13)) ca_nil)))))))) css_nil))))) (css_one (cs_retT (cai_mv (by decide +kernel) (cai_mv (by decide +kernel) cai_nil))))))))))
theorem sc_drawn : FnScope g_drawn.N ["row", "points", "first", "own"] (defScope s_drawn) := ⟨rfl, rfl, rfl, by decide +kernel, rfl, by decide +kernel, by decide +kernel⟩

abbrev s_x_law_at : Stmt := topS 4
noncomputable def m_x_law_at : Sl → RS := (sSeq (sIf (mB (m2 fLt (mVar 1) (mF fLen (mCons (mVar 0) mNil)))) (sRet (m2 fIx (mVar 0) (mVar 1))) sNext) (sRet (mC (.int 0))))
noncomputable def e_x_law_at : FE := ⟨"_law_at", 1, 2, runD 2 m_x_law_at 2⟩
noncomputable def g_x_law_at : Gm := { N := ["_law_script", "_law_k"], sc := defScope s_x_law_at, T := [], X := ["len"], C := [], k := 0, st := fun _ => true, E := [], I := [], Q := [] }
theorem v_x_law_at_1 : varB g_x_law_at 1 "_law_k" = true := by decide +kernel
theorem v_x_law_at_0 : varB g_x_law_at 0 "_law_script" = true := by decide +kernel
theorem c_x_law_at {G : Gd} (gr : g_x_law_at.Gr G) : CSs G g_x_law_at (defBody s_x_law_at) m_x_law_at := (css_cons (cs_if (ct_cmp o_lt rfl (ce_v v_x_law_at_1) (ce_bn gr b_len boot_len (by decide +kernel) (ca_cons rfl (ce_v v_x_law_at_0) ca_nil))) (css_one (cs_ret (ce_ix rfl (ce_v v_x_law_at_0) (ce_v v_x_law_at_1)))) css_nil) (css_one (cs_ret ce_int)))
theorem sc_x_law_at : FnScope g_x_law_at.N ["_law_script", "_law_k"] (defScope s_x_law_at) := ⟨rfl, rfl, rfl, by decide +kernel, rfl, by decide +kernel, by decide +kernel⟩

abbrev s_x_law_mix : Stmt := topS 5
noncomputable def m_x_law_mix : Sl → RS := (sSeq (sSet 2 (m2 fIx (mFr (mLst (mCons (mC (.int 48271)) (mCons (mC (.int 69621)) (mCons (mC (.int 16807)) (mCons (mC (.int 40692)) (mCons (mC (.int 30269)) (mCons (mC (.int 62089)) (mCons (mC (.int 45991)) mNil))))))))) (m2 fMod (mVar 1) (mC (.int 7))))) (sSeq (sSet 3 (m2 fMod (m2 fMul (m2 fAdd (m2 fAdd (m2 fMod (mVar 0) (mC (.int 2147483647))) (m2 fMul (m2 fMul (mC (.int 97)) (mVar 1)) (mVar 1))) (mC (.int 11))) (mVar 2)) (mC (.int 2147483629)))) (sRet (m2 fMod (m2 fMul (mVar 3) (mVar 3)) (mC (.int 1999999973))))))
noncomputable def e_x_law_mix : FE := ⟨"_law_mix", 1, 2, runD 4 m_x_law_mix 2⟩
noncomputable def g_x_law_mix : Gm := { N := ["_law_cell", "_law_k", "_law_factor", "_law_number"], sc := defScope s_x_law_mix, T := [], X := [], C := [], k := 0, st := fun _ => true, E := [], I := [], Q := [] }
theorem v_x_law_mix_1 : varB g_x_law_mix 1 "_law_k" = true := by decide +kernel
theorem v_x_law_mix_0 : varB g_x_law_mix 0 "_law_cell" = true := by decide +kernel
theorem v_x_law_mix_2 : varB g_x_law_mix 2 "_law_factor" = true := by decide +kernel
theorem v_x_law_mix_3 : varB g_x_law_mix 3 "_law_number" = true := by decide +kernel
theorem w_x_law_mix_2 : stB g_x_law_mix 2 "_law_factor" = true := by decide +kernel
theorem w_x_law_mix_3 : stB g_x_law_mix 3 "_law_number" = true := by decide +kernel
theorem c_x_law_mix {G : Gd} (gr : g_x_law_mix.Gr G) : CSs G g_x_law_mix (defBody s_x_law_mix) m_x_law_mix := (css_cons (cs_s w_x_law_mix_2 (by decide +kernel) (ce_ix rfl (ce_of_co (co_lst (ca_cons rfl ce_int (ca_cons rfl ce_int (ca_cons rfl ce_int (ca_cons rfl ce_int (ca_cons rfl ce_int (ca_cons rfl ce_int (ca_cons rfl ce_int ca_nil))))))))) (ce_bin o_mod (ce_v v_x_law_mix_1) ce_int))) (css_cons (cs_s w_x_law_mix_3 (by decide +kernel) (ce_bin o_mod (ce_bin o_mul (ce_bin o_add (ce_bin o_add (ce_bin o_mod (ce_v v_x_law_mix_0) ce_int) (ce_bin o_mul (ce_bin o_mul ce_int (ce_v v_x_law_mix_1)) (ce_v v_x_law_mix_1))) ce_int) (ce_v v_x_law_mix_2)) ce_int)) (css_one (cs_ret (ce_bin o_mod (ce_bin o_mul (ce_v v_x_law_mix_3) (ce_v v_x_law_mix_3)) ce_int)))))
theorem sc_x_law_mix : FnScope g_x_law_mix.N ["_law_cell", "_law_k"] (defScope s_x_law_mix) := ⟨rfl, rfl, rfl, by decide +kernel, rfl, by decide +kernel, by decide +kernel⟩

abbrev s_x_law_names : Stmt := topS 6
noncomputable def l_x_law_names_0 : Sl → R D := (m2 fIx (mVar 2) (m2 fMod (m2 fAdd (m2 fDiv (mVar 3) (m2 fAdd (mVar 6) (mC (.int 1)))) (m2 fMul (mVar 6) (mVar 6))) (mC (.int 26))))
noncomputable def l_x_law_names_1 : Sl → R D := (m2 fAdd (m2 fIx (mVar 2) (mVar 4)) (mSl (mVar 5) mNoP (mP (mVar 7))))
noncomputable def l_x_law_names_2 : Sl → R D := (m2 fAdd (m2 fIx (mVar 2) (m2 fMod (m2 fAdd (mVar 4) (mVar 7)) (mC (.int 26)))) (mSl (mVar 5) mNoP (mP (mVar 8))))
noncomputable def l_x_law_names_3 : Sl → R D := (m2 fIx (mVar 2) (m2 fMod (m2 fAdd (m2 fDiv (mVar 3) (mC (.int 7))) (mVar 7)) (mC (.int 26))))
noncomputable def l_x_law_names_4 : Sl → R D := (m2 fAdd (m2 fAdd (m2 fAdd (m2 fIx (mVar 2) (mVar 4)) (mSl (mVar 5) mNoP (mP (mVar 9)))) (mVar 11)) (mSl (mVar 5) (mP (mVar 9)) (mP (mVar 8))))
noncomputable def m_x_law_names : Sl → RS := (sSeq (sSet 2 (mC (.str "abcdefghijklmnopqrstuvwxyz"))) (sSeq (sSet 3 (mFr (mCall e_x_law_mix.fn (mCons (mVar 0) (mCons (mC (.int 0)) mNil))))) (sSeq (sSet 4 (m2 fMod (m2 fDiv (mVar 3) (mC (.int 5))) (mC (.int 26)))) (sSeq (sSet 5 (mS1 fJoin (mC (.str "")) (mFr (mLc (mRg1 (mC (.int 7))) [6] (put 6) mYes l_x_law_names_0)))) (sSeq (sIf (mB (m2 fEq (m2 fMod (mVar 3) (mC (.int 3))) (mC (.int 0)))) (sRetO (mLc (mRg1 (mVar 1)) [7] (put 7) mYes l_x_law_names_1)) sNext) (sSeq (sIf (mB (m2 fEq (m2 fMod (mVar 3) (mC (.int 3))) (mC (.int 1)))) (sSeq (sSet 8 (m2 fMod (m2 fDiv (mVar 3) (mC (.int 3))) (mC (.int 8)))) (sRetO (mLc (mRg1 (mVar 1)) [7] (put 7) mYes l_x_law_names_2))) sNext) (sSeq (sSet 8 (m2 fMod (m2 fDiv (mVar 3) (mC (.int 3))) (mC (.int 7)))) (sSeq (sSet 9 (m2 fMod (m2 fDiv (mVar 3) (mC (.int 21))) (m2 fAdd (mVar 8) (mC (.int 1))))) (sSeq (sSet 10 (mFr (mLc (mRg1 (mVar 1)) [7] (put 7) mYes l_x_law_names_3))) (sRetO (mLc (mIt (mVar 10)) [11] (put 11) mYes l_x_law_names_4)))))))))))
noncomputable def e_x_law_names : FE := ⟨"_law_names", 2, 2, runD 12 m_x_law_names 2⟩
noncomputable def g_x_law_names : Gm := { N := ["_law_cell", "_law_many_here", "_law_letters", "_law_number", "_law_start", "_law_tail", "_law_j", "_law_k", "_law_size", "_law_at_here", "_law_rest", "_law_sign"], sc := defScope s_x_law_names, T := [e_x_law_mix], X := ["range"], C := [], k := 1, st := fun _ => true, E := [], I := [], Q := [] }
theorem v_x_law_names_0 : varB g_x_law_names 0 "_law_cell" = true := by decide +kernel
theorem v_x_law_names_3 : varB g_x_law_names 3 "_law_number" = true := by decide +kernel
theorem v_x_law_names_1 : varB g_x_law_names 1 "_law_many_here" = true := by decide +kernel
theorem v_x_law_names_8 : varB g_x_law_names 8 "_law_size" = true := by decide +kernel
theorem v_x_law_names_10 : varB g_x_law_names 10 "_law_rest" = true := by decide +kernel
theorem w_x_law_names_2 : stB g_x_law_names 2 "_law_letters" = true := by decide +kernel
theorem w_x_law_names_3 : stB g_x_law_names 3 "_law_number" = true := by decide +kernel
theorem w_x_law_names_4 : stB g_x_law_names 4 "_law_start" = true := by decide +kernel
theorem w_x_law_names_5 : stB g_x_law_names 5 "_law_tail" = true := by decide +kernel
theorem w_x_law_names_8 : stB g_x_law_names 8 "_law_size" = true := by decide +kernel
theorem w_x_law_names_9 : stB g_x_law_names 9 "_law_at_here" = true := by decide +kernel
theorem w_x_law_names_10 : stB g_x_law_names 10 "_law_rest" = true := by decide +kernel
theorem c_x_law_names {G : Gd} (gr : g_x_law_names.Gr G) : CSs G g_x_law_names (defBody s_x_law_names) m_x_law_names := (css_cons (cs_s w_x_law_names_2 (by decide +kernel) ce_str) (css_cons (cs_s w_x_law_names_3 (by decide +kernel) (ce_of_co (co_cn (e := e_x_law_mix) gr (.head _) (by decide +kernel) (ca_cons rfl (ce_v v_x_law_names_0) (ca_cons rfl ce_int ca_nil))))) (css_cons (cs_s w_x_law_names_4 (by decide +kernel) (ce_bin o_mod (ce_bin o_div (ce_v v_x_law_names_3) ce_int) ce_int)) (css_cons (cs_s w_x_law_names_5 (by decide +kernel) (ce_join (by decide +kernel) ce_str (ce_of_co (co_lc (own := [("_law_j", 6)]) (ci_r1 gr (by decide +kernel) ce_int) (by decide +kernel) (by decide) (cg_n (by decide +kernel)) cts_nil (ce_ix rfl (ce_v (by decide +kernel)) (ce_bin o_mod (ce_bin o_add (ce_bin o_div (ce_v (by decide +kernel)) (ce_bin o_add (ce_v (by decide +kernel)) ce_int)) (ce_bin o_mul (ce_v (by decide +kernel)) (ce_v (by decide +kernel)))) ce_int)) rfl)))) (css_cons (cs_if (ct_cmp o_eq rfl (ce_bin o_mod (ce_v v_x_law_names_3) ce_int) ce_int) (css_one (cs_retO (co_lc (own := [("_law_k", 7)]) (ci_r1 gr (by decide +kernel) (ce_v v_x_law_names_1)) (by decide +kernel) (by decide) (cg_n (by decide +kernel)) cts_nil (ce_bin o_add (ce_ix rfl (ce_v (by decide +kernel)) (ce_v (by decide +kernel))) (ce_sl (ce_v (by decide +kernel)) cp_none (cp_some (ce_v (by decide +kernel))))) rfl))) css_nil) (css_cons (cs_if (ct_cmp o_eq rfl (ce_bin o_mod (ce_v v_x_law_names_3) ce_int) ce_int) (css_cons (cs_s w_x_law_names_8 (by decide +kernel) (ce_bin o_mod (ce_bin o_div (ce_v v_x_law_names_3) ce_int) ce_int)) (css_one (cs_retO (co_lc (own := [("_law_k", 7)]) (ci_r1 gr (by decide +kernel) (ce_v v_x_law_names_1)) (by decide +kernel) (by decide) (cg_n (by decide +kernel)) cts_nil (ce_bin o_add (ce_ix rfl (ce_v (by decide +kernel)) (ce_bin o_mod (ce_bin o_add (ce_v (by decide +kernel)) (ce_v (by decide +kernel))) ce_int)) (ce_sl (ce_v (by decide +kernel)) cp_none (cp_some (ce_v (by decide +kernel))))) rfl)))) css_nil) (css_cons (cs_s w_x_law_names_8 (by decide +kernel) (ce_bin o_mod (ce_bin o_div (ce_v v_x_law_names_3) ce_int) ce_int)) (css_cons (cs_s w_x_law_names_9 (by decide +kernel) (ce_bin o_mod (ce_bin o_div (ce_v v_x_law_names_3) ce_int) (ce_bin o_add (ce_v v_x_law_names_8) ce_int))) (css_cons (cs_lcV w_x_law_names_10 (by decide +kernel) (own := [("_law_k", 7)]) (ci_r1 gr (by decide +kernel) (ce_v v_x_law_names_1)) (by decide +kernel) (by decide) (cg_n (by decide +kernel)) cts_nil (ce_ix rfl (ce_v (by decide +kernel)) (ce_bin o_mod (ce_bin o_add (ce_bin o_div (ce_v (by decide +kernel)) ce_int) (ce_v (by decide +kernel))) ce_int)) rfl) (css_one (cs_retO (co_lc (own := [("_law_sign", 11)]) (ci_val (ce_v v_x_law_names_10)) (by decide +kernel) (by decide) (cg_n (by decide +kernel)) cts_nil (ce_bin o_add (ce_bin o_add (ce_bin o_add (ce_ix rfl (ce_v (by decide +kernel)) (ce_v (by decide +kernel))) (ce_sl (ce_v (by decide +kernel)) cp_none (cp_some (ce_v (by decide +kernel))))) (ce_v (by decide +kernel))) (ce_sl (ce_v (by decide +kernel)) (cp_some (ce_v (by decide +kernel))) (cp_some (ce_v (by decide +kernel))))) rfl))))))))))))
theorem sc_x_law_names : FnScope g_x_law_names.N ["_law_cell", "_law_many_here"] (defScope s_x_law_names) := ⟨rfl, rfl, rfl, by decide +kernel, rfl, by decide +kernel, by decide +kernel⟩

abbrev s_x_law_pile : Stmt := topS 7
noncomputable def m_x_law_pile : Sl → RS := (sSeq (sSet 3 (mFr (mCall e_x_law_at.fn (mCons (mVar 0) (mCons (m2 fAdd (mC (.int 1)) (m2 fMod (mVar 2) (mF fMax (mCons (mC (.int 1)) (mCons (m2 fSub (mF fLen (mCons (mVar 0) mNil)) (mC (.int 1))) mNil))))) mNil))))) (sSeq (sSet 4 (mFr (mCall e_x_law_mix.fn (mCons (mVar 3) (mCons (mVar 2) mNil))))) (sSeq (sSet 5 (mFr (mCall e_x_law_mix.fn (mCons (mVar 3) (mCons (m2 fAdd (mVar 2) (mC (.int 3))) mNil))))) (sSeq (sSet 6 (m2 fIx (mTup (mCons (m2 fMod (mVar 4) (mC (.int 3))) (mCons (m2 fMod (mVar 4) (mC (.int 7))) (mCons (m2 fMod (mVar 4) (mC (.int 40))) (mCons (m2 fMod (m2 fAdd (mVar 3) (mVar 2)) (m2 fPow (mC (.int 10)) (mC (.int 12)))) mNil))))) (m2 fMod (m2 fDiv (mVar 4) (mC (.int 21))) (mC (.int 4))))) (sSeq (sSet 7 (m2 fIx (mTup (mCons (mC (.str "")) (mCons (mC (.str "")) (mCons (m2 fIx (mVar 1) (m2 fMod (m2 fDiv (mVar 4) (mC (.int 84))) (mC (.int 6)))) (mCons (m2 fIx (mVar 1) (mC (.int 0))) mNil))))) (m2 fMod (m2 fDiv (mVar 4) (mC (.int 504))) (mC (.int 4))))) (sSeq (sSet 8 (m2 fIx (mTup (mCons (m2 fAdd (mC (.int 1)) (m2 fMod (mVar 5) (mC (.int 3)))) (mCons (m2 fAdd (mC (.int 1)) (m2 fMod (mVar 5) (mC (.int 9)))) (mCons (mC (.int 1)) (mCons (m2 fAdd (mC (.int 1)) (m2 fMod (m2 fAdd (mVar 3) (mVar 5)) (m2 fPow (mC (.int 10)) (mC (.int 8))))) mNil))))) (m2 fMod (m2 fDiv (mVar 5) (mC (.int 9))) (mC (.int 4))))) (sRet (mTup (mCons (mVar 6) (mCons (m2 fIx (mVar 1) (m2 fMod (m2 fDiv (mVar 5) (mC (.int 36))) (mC (.int 6)))) (mCons (mVar 7) (mCons (mVar 8) mNil))))))))))))
noncomputable def e_x_law_pile : FE := ⟨"_law_pile", 2, 3, runD 9 m_x_law_pile 3⟩
noncomputable def g_x_law_pile : Gm := { N := ["_law_script", "_law_names_here", "_law_k", "_law_cell", "_law_m", "_law_n", "_law_born", "_law_mark", "_law_points"], sc := defScope s_x_law_pile, T := [e_x_law_at, e_x_law_mix], X := ["max", "len"], C := [], k := 1, st := fun _ => true, E := [], I := [], Q := [] }
theorem v_x_law_pile_2 : varB g_x_law_pile 2 "_law_k" = true := by decide +kernel
theorem v_x_law_pile_0 : varB g_x_law_pile 0 "_law_script" = true := by decide +kernel
theorem v_x_law_pile_3 : varB g_x_law_pile 3 "_law_cell" = true := by decide +kernel
theorem v_x_law_pile_4 : varB g_x_law_pile 4 "_law_m" = true := by decide +kernel
theorem v_x_law_pile_1 : varB g_x_law_pile 1 "_law_names_here" = true := by decide +kernel
theorem v_x_law_pile_5 : varB g_x_law_pile 5 "_law_n" = true := by decide +kernel
theorem v_x_law_pile_8 : varB g_x_law_pile 8 "_law_points" = true := by decide +kernel
theorem v_x_law_pile_7 : varB g_x_law_pile 7 "_law_mark" = true := by decide +kernel
theorem v_x_law_pile_6 : varB g_x_law_pile 6 "_law_born" = true := by decide +kernel
theorem w_x_law_pile_3 : stB g_x_law_pile 3 "_law_cell" = true := by decide +kernel
theorem w_x_law_pile_4 : stB g_x_law_pile 4 "_law_m" = true := by decide +kernel
theorem w_x_law_pile_5 : stB g_x_law_pile 5 "_law_n" = true := by decide +kernel
theorem w_x_law_pile_6 : stB g_x_law_pile 6 "_law_born" = true := by decide +kernel
theorem w_x_law_pile_7 : stB g_x_law_pile 7 "_law_mark" = true := by decide +kernel
theorem w_x_law_pile_8 : stB g_x_law_pile 8 "_law_points" = true := by decide +kernel
theorem c_x_law_pile {G : Gd} (gr : g_x_law_pile.Gr G) : CSs G g_x_law_pile (defBody s_x_law_pile) m_x_law_pile := (css_cons (cs_s w_x_law_pile_3 (by decide +kernel) (ce_of_co (co_cn (e := e_x_law_at) gr (.head _) (by decide +kernel) (ca_cons rfl (ce_v v_x_law_pile_0) (ca_cons rfl (ce_bin o_add ce_int (ce_bin o_mod (ce_v v_x_law_pile_2) (ce_bn gr b_max boot_max (by decide +kernel) (ca_cons rfl ce_int (ca_cons rfl (ce_bin o_sub (ce_bn gr b_len boot_len (by decide +kernel) (ca_cons rfl (ce_v v_x_law_pile_0) ca_nil)) ce_int) ca_nil))))) ca_nil))))) (css_cons (cs_s w_x_law_pile_4 (by decide +kernel) (ce_of_co (co_cn (e := e_x_law_mix) gr (.tail _ (.head _)) (by decide +kernel) (ca_cons rfl (ce_v v_x_law_pile_3) (ca_cons rfl (ce_v v_x_law_pile_2) ca_nil))))) (css_cons (cs_s w_x_law_pile_5 (by decide +kernel) (ce_of_co (co_cn (e := e_x_law_mix) gr (.tail _ (.head _)) (by decide +kernel) (ca_cons rfl (ce_v v_x_law_pile_3) (ca_cons rfl (ce_bin o_add (ce_v v_x_law_pile_2) ce_int) ca_nil))))) (css_cons (cs_s w_x_law_pile_6 (by decide +kernel) (ce_ix rfl (ce_tup (ca_cons rfl (ce_bin o_mod (ce_v v_x_law_pile_4) ce_int) (ca_cons rfl (ce_bin o_mod (ce_v v_x_law_pile_4) ce_int) (ca_cons rfl (ce_bin o_mod (ce_v v_x_law_pile_4) ce_int) (ca_cons rfl (ce_bin o_mod (ce_bin o_add (ce_v v_x_law_pile_3) (ce_v v_x_law_pile_2)) (ce_bin o_pow ce_int ce_int)) ca_nil))))) (ce_bin o_mod (ce_bin o_div (ce_v v_x_law_pile_4) ce_int) ce_int))) (css_cons (cs_s w_x_law_pile_7 (by decide +kernel) (ce_ix rfl (ce_tup (ca_cons rfl ce_str (ca_cons rfl ce_str (ca_cons rfl (ce_ix rfl (ce_v v_x_law_pile_1) (ce_bin o_mod (ce_bin o_div (ce_v v_x_law_pile_4) ce_int) ce_int)) (ca_cons rfl (ce_ix rfl (ce_v v_x_law_pile_1) ce_int) ca_nil))))) (ce_bin o_mod (ce_bin o_div (ce_v v_x_law_pile_4) ce_int) ce_int))) (css_cons (cs_s w_x_law_pile_8 (by decide +kernel) (ce_ix rfl (ce_tup (ca_cons rfl (ce_bin o_add ce_int (ce_bin o_mod (ce_v v_x_law_pile_5) ce_int)) (ca_cons rfl (ce_bin o_add ce_int (ce_bin o_mod (ce_v v_x_law_pile_5) ce_int)) (ca_cons rfl ce_int (ca_cons rfl (ce_bin o_add ce_int (ce_bin o_mod (ce_bin o_add (ce_v v_x_law_pile_3) (ce_v v_x_law_pile_5)) (ce_bin o_pow ce_int ce_int))) ca_nil))))) (ce_bin o_mod (ce_bin o_div (ce_v v_x_law_pile_5) ce_int) ce_int))) (css_one (cs_ret (ce_tup (ca_cons rfl (ce_v v_x_law_pile_6) (ca_cons rfl (ce_ix rfl (ce_v v_x_law_pile_1) (ce_bin o_mod (ce_bin o_div (ce_v v_x_law_pile_5) ce_int) ce_int)) (ca_cons rfl (ce_v v_x_law_pile_7) (ca_cons rfl (ce_v v_x_law_pile_8) ca_nil)))))))))))))
theorem sc_x_law_pile : FnScope g_x_law_pile.N ["_law_script", "_law_names_here", "_law_k"] (defScope s_x_law_pile) := ⟨rfl, rfl, rfl, by decide +kernel, rfl, by decide +kernel, by decide +kernel⟩

abbrev s_x_law_piles : Stmt := topS 8
noncomputable def l_x_law_piles_0 : Sl → R D := (mFr (mCall e_x_law_pile.fn (mCons (mVar 0) (mCons (mVar 1) (mCons (m2 fAdd (mVar 2) (mVar 4)) mNil)))))
noncomputable def m_x_law_piles : Sl → RS := (sRetO (mLc (mRg1 (mVar 3)) [4] (put 4) mYes l_x_law_piles_0))
noncomputable def e_x_law_piles : FE := ⟨"_law_piles", 3, 4, runD 5 m_x_law_piles 4⟩
noncomputable def g_x_law_piles : Gm := { N := ["_law_script", "_law_names_here", "_law_first_here", "_law_many_here", "_law_k"], sc := defScope s_x_law_piles, T := [e_x_law_pile], X := ["range"], C := [], k := 2, st := fun _ => true, E := [], I := [], Q := [] }
theorem v_x_law_piles_3 : varB g_x_law_piles 3 "_law_many_here" = true := by decide +kernel
theorem c_x_law_piles {G : Gd} (gr : g_x_law_piles.Gr G) : CSs G g_x_law_piles (defBody s_x_law_piles) m_x_law_piles := (css_one (cs_retO (co_lc (own := [("_law_k", 4)]) (ci_r1 gr (by decide +kernel) (ce_v v_x_law_piles_3)) (by decide +kernel) (by decide) (cg_n (by decide +kernel)) cts_nil (ce_of_co (co_cn (e := e_x_law_pile) (gr.blk _) (.head _) (by decide +kernel) (ca_cons rfl (ce_v (by decide +kernel)) (ca_cons rfl (ce_v (by decide +kernel)) (ca_cons rfl (ce_bin o_add (ce_v (by decide +kernel)) (ce_v (by decide +kernel))) ca_nil))))) rfl)))
theorem sc_x_law_piles : FnScope g_x_law_piles.N ["_law_script", "_law_names_here", "_law_first_here", "_law_many_here"] (defScope s_x_law_piles) := ⟨rfl, rfl, rfl, by decide +kernel, rfl, by decide +kernel, by decide +kernel⟩

abbrev s_x_law_put : Stmt := topS 9
noncomputable def b_x_law_put_0 : Sl → RS := (sIf (mB (m2 fEq (mSl (mVar 4) mNoP (mP (mC (.int 3)))) (mSl (mVar 1) mNoP (mP (mC (.int 3)))))) (sSet 3 (m2 fAdd (mVar 3) (m2 fIx (mVar 4) (mC (.int 3))))) (sApp 2 (mV (mVar 4))))
noncomputable def l_x_law_put_0 : Sl → R D := (mVar 4)
noncomputable def m_x_law_put : Sl → RS := (sSeq (sSetO 2 (mLst mNil)) (sSeq (sSet 3 (m2 fIx (mVar 1) (mC (.int 3)))) (sSeq (sFor (mIt (mVar 0)) (put 4) b_x_law_put_0) (sSeq (sSet 5 (vE (mF fLen (mCons (mFr (mLc (mIt (mVar 2)) [4] (put 4) (mB (m2 fLt (mSl (mVar 4) mNoP (mP (mC (.int 3)))) (mSl (mVar 1) mNoP (mP (mC (.int 3)))))) l_x_law_put_0)) mNil)))) (sFrz 2 (sRet (m2 fAdd (m2 fAdd (mSl (mVar 2) mNoP (mP (mVar 5))) (mFr (mLst (mCons (m2 fAdd (mSl (mVar 1) mNoP (mP (mC (.int 3)))) (mTup (mCons (mVar 3) mNil))) mNil)))) (mSl (mVar 2) (mP (mVar 5)) mNoP))))))))
noncomputable def e_x_law_put : FE := ⟨"_law_put", 1, 2, runD 6 m_x_law_put 2⟩
noncomputable def g_x_law_put : Gm := { N := ["_law_row_here", "_law_pile_here", "_law_made", "_law_points", "_law_one", "_law_at_here"], sc := defScope s_x_law_put, T := [], X := ["len"], C := [], k := 0, st := fun _ => true, E := [], I := [], Q := [] }
theorem v_x_law_put_1 : varB g_x_law_put 1 "_law_pile_here" = true := by decide +kernel
theorem v_x_law_put_0 : varB g_x_law_put 0 "_law_row_here" = true := by decide +kernel
theorem v_x_law_put_4 : varB g_x_law_put 4 "_law_one" = true := by decide +kernel
theorem v_x_law_put_3 : varB g_x_law_put 3 "_law_points" = true := by decide +kernel
theorem v_x_law_put_2 : varB g_x_law_put 2 "_law_made" = true := by decide +kernel
theorem v_x_law_put_5 : varB g_x_law_put 5 "_law_at_here" = true := by decide +kernel
theorem w_x_law_put_2 : stB g_x_law_put 2 "_law_made" = true := by decide +kernel
theorem w_x_law_put_3 : stB g_x_law_put 3 "_law_points" = true := by decide +kernel
theorem w_x_law_put_4 : stB g_x_law_put 4 "_law_one" = true := by decide +kernel
theorem w_x_law_put_5 : stB g_x_law_put 5 "_law_at_here" = true := by decide +kernel
theorem c_x_law_put {G : Gd} (gr : g_x_law_put.Gr G) : CSs G g_x_law_put (defBody s_x_law_put) m_x_law_put := (css_cons (cs_so w_x_law_put_2 (by decide +kernel) (co_lst ca_nil)) (css_cons (cs_s w_x_law_put_3 (by decide +kernel) (ce_ix rfl (ce_v v_x_law_put_1) ce_int)) (css_cons (cs_for rfl (ci_val (ce_v v_x_law_put_0)) (cg_n w_x_law_put_4) (css_one (cs_if (ct_cmp o_eq rfl (ce_sl (ce_v v_x_law_put_4) cp_none (cp_some ce_int)) (ce_sl (ce_v v_x_law_put_1) cp_none (cp_some ce_int))) (css_one (cs_s w_x_law_put_3 (by decide +kernel) (ce_bin o_add (ce_v v_x_law_put_3) (ce_ix rfl (ce_v v_x_law_put_4) ce_int)))) (css_one (cs_app (by decide +kernel) (co_of_ce (ce_v v_x_law_put_4))))))) (css_cons (cs_s w_x_law_put_5 (by decide +kernel) (ce_view (ce_bn gr b_len boot_len (by decide +kernel) (ca_cons rfl (ce_of_co (co_lc (own := [("_law_one", 4)]) (ci_val (ce_v v_x_law_put_2)) (by decide +kernel) (by decide) (cg_n (by decide +kernel)) (cts_one (ct_cmp o_lt rfl (ce_sl (ce_v (by decide +kernel)) cp_none (cp_some ce_int)) (ce_sl (ce_v (by decide +kernel)) cp_none (cp_some ce_int)))) (ce_v (by decide +kernel)) rfl)) ca_nil)))) (css_one (cs_frz 2 (cs_ret (ce_bin o_add (ce_bin o_add (ce_sl (ce_v v_x_law_put_2) cp_none (cp_some (ce_v v_x_law_put_5))) (ce_of_co (co_lst (ca_cons rfl (ce_bin o_add (ce_sl (ce_v v_x_law_put_1) cp_none (cp_some ce_int)) (ce_tup (ca_cons rfl (ce_v v_x_law_put_3) ca_nil))) ca_nil)))) (ce_sl (ce_v v_x_law_put_2) (cp_some (ce_v v_x_law_put_5)) cp_none)))))))))
theorem sc_x_law_put : FnScope g_x_law_put.N ["_law_row_here", "_law_pile_here"] (defScope s_x_law_put) := ⟨rfl, rfl, rfl, by decide +kernel, rfl, by decide +kernel, by decide +kernel⟩

abbrev s_x_law_row : Stmt := topS 10
noncomputable def b_x_law_row_0 : Sl → RS := (sSet 0 (mFr (mCall e_x_law_put.fn (mCons (mVar 0) (mCons (mVar 2) mNil)))))
noncomputable def m_x_law_row : Sl → RS := (sSeq (sFor (mIt (mVar 1)) (put 2) b_x_law_row_0) (sRet (mVar 0)))
noncomputable def e_x_law_row : FE := ⟨"_law_row", 2, 2, runD 3 m_x_law_row 2⟩
noncomputable def g_x_law_row : Gm := { N := ["_law_row_here", "_law_piles_here", "_law_pile_here"], sc := defScope s_x_law_row, T := [e_x_law_put], X := [], C := [], k := 1, st := fun _ => true, E := [], I := [], Q := [] }
theorem v_x_law_row_1 : varB g_x_law_row 1 "_law_piles_here" = true := by decide +kernel
theorem v_x_law_row_2 : varB g_x_law_row 2 "_law_pile_here" = true := by decide +kernel
theorem v_x_law_row_0 : varB g_x_law_row 0 "_law_row_here" = true := by decide +kernel
theorem w_x_law_row_2 : stB g_x_law_row 2 "_law_pile_here" = true := by decide +kernel
theorem w_x_law_row_0 : stB g_x_law_row 0 "_law_row_here" = true := by decide +kernel
theorem c_x_law_row {G : Gd} (gr : g_x_law_row.Gr G) : CSs G g_x_law_row (defBody s_x_law_row) m_x_law_row := (css_cons (cs_for rfl (ci_val (ce_v v_x_law_row_1)) (cg_n w_x_law_row_2) (css_one (cs_s w_x_law_row_0 (by decide +kernel) (ce_of_co (co_cn (e := e_x_law_put) gr (.head _) (by decide +kernel) (ca_cons rfl (ce_v v_x_law_row_0) (ca_cons rfl (ce_v v_x_law_row_2) ca_nil))))))) (css_one (cs_ret (ce_v v_x_law_row_0))))
theorem sc_x_law_row : FnScope g_x_law_row.N ["_law_row_here", "_law_piles_here"] (defScope s_x_law_row) := ⟨rfl, rfl, rfl, by decide +kernel, rfl, by decide +kernel, by decide +kernel⟩

abbrev s_x_law_whole : Stmt := topS 11
noncomputable def m_x_law_whole : Sl → RS := (sRet (vAnd (m1 (fIsi "int") (mVar 0)) (vNot (m1 (fIsi "bool") (mVar 0)))))
noncomputable def e_x_law_whole : FE := ⟨"_law_whole", 1, 1, runD 1 m_x_law_whole 1⟩
noncomputable def g_x_law_whole : Gm := { N := ["_law_thing"], sc := defScope s_x_law_whole, T := [], X := ["isinstance", "int", "bool"], C := [], k := 0, st := fun _ => true, E := [], I := [], Q := [] }
theorem v_x_law_whole_0 : varB g_x_law_whole 0 "_law_thing" = true := by decide +kernel
theorem c_x_law_whole {G : Gd} (gr : g_x_law_whole.Gr G) : CSs G g_x_law_whole (defBody s_x_law_whole) m_x_law_whole := (css_one (cs_ret (ce_and (ce_isn gr boot_int (by decide +kernel) (ce_v v_x_law_whole_0)) (ce_one (ce_not (ce_isn gr boot_bool (by decide +kernel) (ce_v v_x_law_whole_0)))))))
theorem sc_x_law_whole : FnScope g_x_law_whole.N ["_law_thing"] (defScope s_x_law_whole) := ⟨rfl, rfl, rfl, by decide +kernel, rfl, by decide +kernel, by decide +kernel⟩

abbrev s_x_law_is_row : Stmt := topS 12
noncomputable def b_x_law_is_row_0 : Sl → RS := (sIf (mOr (mNot (mB (m1 (fIsi "tuple") (mVar 2)))) (mOr (mB (m2 fNe (mVar 2) (mVar 3))) (mOr (mNot (mB (mFr (mCall e_x_law_whole.fn (mCons (m2 fIx (mVar 2) (mC (.int 0))) mNil))))) (mNot (mB (mFr (mCall e_x_law_whole.fn (mCons (m2 fIx (mVar 2) (mC (.int 3))) mNil)))))))) (sRet (mC (.bl false))) sNext)
noncomputable def m_x_law_is_row : Sl → RS := (sSeq (sIf (mOr (mNot (mB (m1 (fIsi "list") (mVar 0)))) (mB (m2 fNe (mF fLen (mCons (mVar 0) mNil)) (mF fLen (mCons (mVar 1) mNil))))) (sRet (mC (.bl false))) sNext) (sSeq (sFor (mZip (mVar 0) (mVar 1)) (putTup 2 (putCons (put 2) (putCons (put 3) putNil))) b_x_law_is_row_0) (sRet (mC (.bl true)))))
noncomputable def e_x_law_is_row : FE := ⟨"_law_is_row", 2, 2, runD 4 m_x_law_is_row 2⟩
noncomputable def g_x_law_is_row : Gm := { N := ["_law_found", "_law_due", "_law_one", "_law_other"], sc := defScope s_x_law_is_row, T := [e_x_law_whole], X := ["isinstance", "list", "len", "zip", "tuple"], C := [], k := 1, st := fun _ => true, E := [], I := [], Q := [] }
theorem v_x_law_is_row_0 : varB g_x_law_is_row 0 "_law_found" = true := by decide +kernel
theorem v_x_law_is_row_1 : varB g_x_law_is_row 1 "_law_due" = true := by decide +kernel
theorem v_x_law_is_row_2 : varB g_x_law_is_row 2 "_law_one" = true := by decide +kernel
theorem v_x_law_is_row_3 : varB g_x_law_is_row 3 "_law_other" = true := by decide +kernel
theorem w_x_law_is_row_3 : stB g_x_law_is_row 3 "_law_other" = true := by decide +kernel
theorem w_x_law_is_row_2 : stB g_x_law_is_row 2 "_law_one" = true := by decide +kernel
theorem c_x_law_is_row {G : Gd} (gr : g_x_law_is_row.Gr G) : CSs G g_x_law_is_row (defBody s_x_law_is_row) m_x_law_is_row := (css_cons (cs_if (CW.ct (cw_or (ct_not (ct_val rfl (ce_isn gr boot_list (by decide +kernel) (ce_v v_x_law_is_row_0)))) (cw_or1 (ct_cmp o_ne rfl (ce_bn gr b_len boot_len (by decide +kernel) (ca_cons rfl (ce_v v_x_law_is_row_0) ca_nil)) (ce_bn gr b_len boot_len (by decide +kernel) (ca_cons rfl (ce_v v_x_law_is_row_1) ca_nil)))))) (css_one (cs_ret ce_bl)) css_nil) (css_cons (cs_for rfl (ci_z gr (by decide +kernel) (ce_v v_x_law_is_row_0) (ce_v v_x_law_is_row_1)) (cg_tup rfl (cgs_cons rfl (cg_n w_x_law_is_row_2) (cgs_cons rfl (cg_n w_x_law_is_row_3) cgs_nil))) (css_one (cs_if (CW.ct (cw_or (ct_not (ct_val rfl (ce_isn gr boot_tuple (by decide +kernel) (ce_v v_x_law_is_row_2)))) (cw_or (ct_cmp o_ne rfl (ce_v v_x_law_is_row_2) (ce_v v_x_law_is_row_3)) (cw_or (ct_not (ct_val rfl (ce_of_co (co_cn (e := e_x_law_whole) gr (.head _) (by decide +kernel) (ca_cons rfl (ce_ix rfl (ce_v v_x_law_is_row_2) ce_int) ca_nil))))) (cw_or1 (ct_not (ct_val rfl (ce_of_co (co_cn (e := e_x_law_whole) gr (.head _) (by decide +kernel) (ca_cons rfl (ce_ix rfl (ce_v v_x_law_is_row_2) ce_int) ca_nil)))))))))) (css_one (cs_ret ce_bl)) css_nil))) (css_one (cs_ret ce_bl))))
theorem sc_x_law_is_row : FnScope g_x_law_is_row.N ["_law_found", "_law_due"] (defScope s_x_law_is_row) := ⟨rfl, rfl, rfl, by decide +kernel, rfl, by decide +kernel, by decide +kernel⟩

abbrev s_x_law_many : Stmt := topS 13
noncomputable def m_x_law_many : Sl → RS := (sSeq (sSet 1 (mFr (mCall e_x_law_mix.fn (mCons (mVar 0) (mCons (mC (.int 2)) mNil))))) (sRet (m2 fIx (mTup (mCons (m2 fMod (m2 fDiv (mVar 1) (mC (.int 4))) (mC (.int 6))) (mCons (m2 fMod (m2 fDiv (mVar 1) (mC (.int 4))) (mC (.int 20))) (mCons (m2 fMod (m2 fDiv (mVar 1) (mC (.int 4))) (mC (.int 61))) (mCons (mC (.int 60)) mNil))))) (m2 fMod (mVar 1) (mC (.int 4))))))
noncomputable def e_x_law_many : FE := ⟨"_law_many", 2, 1, runD 2 m_x_law_many 1⟩
noncomputable def g_x_law_many : Gm := { N := ["_law_cell", "_law_number"], sc := defScope s_x_law_many, T := [e_x_law_mix], X := [], C := [], k := 1, st := fun _ => true, E := [], I := [], Q := [] }
theorem v_x_law_many_0 : varB g_x_law_many 0 "_law_cell" = true := by decide +kernel
theorem v_x_law_many_1 : varB g_x_law_many 1 "_law_number" = true := by decide +kernel
theorem w_x_law_many_1 : stB g_x_law_many 1 "_law_number" = true := by decide +kernel
theorem c_x_law_many {G : Gd} (gr : g_x_law_many.Gr G) : CSs G g_x_law_many (defBody s_x_law_many) m_x_law_many := (css_cons (cs_s w_x_law_many_1 (by decide +kernel) (ce_of_co (co_cn (e := e_x_law_mix) gr (.head _) (by decide +kernel) (ca_cons rfl (ce_v v_x_law_many_0) (ca_cons rfl ce_int ca_nil))))) (css_one (cs_ret (ce_ix rfl (ce_tup (ca_cons rfl (ce_bin o_mod (ce_bin o_div (ce_v v_x_law_many_1) ce_int) ce_int) (ca_cons rfl (ce_bin o_mod (ce_bin o_div (ce_v v_x_law_many_1) ce_int) ce_int) (ca_cons rfl (ce_bin o_mod (ce_bin o_div (ce_v v_x_law_many_1) ce_int) ce_int) (ca_cons rfl ce_int ca_nil))))) (ce_bin o_mod (ce_v v_x_law_many_1) ce_int)))))
theorem sc_x_law_many : FnScope g_x_law_many.N ["_law_cell"] (defScope s_x_law_many) := ⟨rfl, rfl, rfl, by decide +kernel, rfl, by decide +kernel, by decide +kernel⟩

abbrev s_x_law_taken : Stmt := topS 14
noncomputable def l_x_law_taken_0 : Sl → R O := (mFO fList (mCons (mVar 5) mNil))
noncomputable def l_x_law_taken_1 : Sl → R D := (mC (.int 0))
noncomputable def b_x_law_taken_0 : Sl → RS := (sIf (mAnd (mOr (mB (m2 fIs (mVar 7) (mC .non))) (mB (m2 fEq (mPl (mIxP (mVarP 5) (mC (.int 1)))) (mVar 7)))) (mOr (mB (m2 fEq (mPl (mIxP (mVarP 5) (mC (.int 2)))) (mC (.str "")))) (mNot (mB (mVar 3))))) (sSeq (sSet 9 (mF fMin (mCons (mVar 1) (mCons (mPl (mIxP (mVarP 5) (mC (.int 3)))) mNil)))) (sSeq (sSub 6 (mVar 8) (vE (m2 fAdd (m2 fIx (mVar 6) (mVar 8)) (mVar 9)))) (sSeq (sSubP (mVarP 5) (mC (.int 3)) (m2 fSub (mPl (mIxP (mVarP 5) (mC (.int 3)))) (mVar 9))) (sSet 1 (m2 fSub (mVar 1) (mVar 9)))))) sNext)
noncomputable def b_x_law_taken_1 : Sl → RS := (sForEP 4 8 5 b_x_law_taken_0)
noncomputable def l_x_law_taken_2 : Sl → R D := (m2 fAdd (mSl (m2 fIx (mVar 0) (mVar 8)) mNoP (mP (mC (.int 3)))) (mTup (mCons (m2 fIx (mVar 6) (mVar 8)) mNil)))
noncomputable def l_x_law_taken_3 : Sl → R D := (mF fTuple (mCons (mVar 5) mNil))
noncomputable def m_x_law_taken : Sl → RS := (sSeq (sSetO 4 (mLcO (mIt (mVar 0)) [5] (put 5) mYes l_x_law_taken_0)) (sSeq (sSetO 6 (mLc (mIt (mVar 0)) [5] (put 5) mYes l_x_law_taken_1)) (sSeq (sFor (mIt (m2 fAdd (mFr (mFO fList (mCons (mVar 2) mNil))) (mFr (mLst (mCons (mC .non) mNil))))) (put 7) b_x_law_taken_1) (sSeq (sFrz 6 (sSet 10 (mFr (mLc (mRg1 (mF fLen (mCons (mVar 0) mNil))) [8] (put 8) (mB (m2 fGt (m2 fIx (mVar 6) (mVar 8)) (mC (.int 0)))) l_x_law_taken_2)))) (sFrz 4 (sRet (mTup (mCons (mVar 10) (mCons (mFr (mLc (mIt (mVar 4)) [5] (put 5) (mB (m2 fGt (m2 fIx (mVar 5) (mC (.int 3))) (mC (.int 0)))) l_x_law_taken_3)) mNil)))))))))
noncomputable def e_x_law_taken : FE := ⟨"_law_taken", 1, 4, runD 11 m_x_law_taken 4⟩
noncomputable def g_x_law_taken : Gm := { N := ["_law_row_here", "_law_points", "_law_first_here", "_law_own", "_law_left", "_law_pile_here", "_law_took", "_law_name", "_law_k", "_law_less", "_law_taken_here"], sc := defScope s_x_law_taken, T := [], X := ["list", "enumerate", "min", "range", "len", "tuple"], C := [], k := 0, st := fun _ => true, E := [], I := [], Q := [] }
theorem v_x_law_taken_0 : varB g_x_law_taken 0 "_law_row_here" = true := by decide +kernel
theorem v_x_law_taken_2 : varB g_x_law_taken 2 "_law_first_here" = true := by decide +kernel
theorem v_x_law_taken_7 : varB g_x_law_taken 7 "_law_name" = true := by decide +kernel
theorem v_x_law_taken_5 : varB g_x_law_taken 5 "_law_pile_here" = true := by decide +kernel
theorem v_x_law_taken_3 : varB g_x_law_taken 3 "_law_own" = true := by decide +kernel
theorem v_x_law_taken_1 : varB g_x_law_taken 1 "_law_points" = true := by decide +kernel
theorem v_x_law_taken_6 : varB g_x_law_taken 6 "_law_took" = true := by decide +kernel
theorem v_x_law_taken_8 : varB g_x_law_taken 8 "_law_k" = true := by decide +kernel
theorem v_x_law_taken_9 : varB g_x_law_taken 9 "_law_less" = true := by decide +kernel
theorem v_x_law_taken_4 : varB g_x_law_taken 4 "_law_left" = true := by decide +kernel
theorem v_x_law_taken_10 : varB g_x_law_taken 10 "_law_taken_here" = true := by decide +kernel
theorem w_x_law_taken_4 : stB g_x_law_taken 4 "_law_left" = true := by decide +kernel
theorem w_x_law_taken_6 : stB g_x_law_taken 6 "_law_took" = true := by decide +kernel
theorem w_x_law_taken_7 : stB g_x_law_taken 7 "_law_name" = true := by decide +kernel
theorem w_x_law_taken_8 : stB g_x_law_taken 8 "_law_k" = true := by decide +kernel
theorem w_x_law_taken_5 : stB g_x_law_taken 5 "_law_pile_here" = true := by decide +kernel
theorem w_x_law_taken_9 : stB g_x_law_taken 9 "_law_less" = true := by decide +kernel
theorem w_x_law_taken_1 : stB g_x_law_taken 1 "_law_points" = true := by decide +kernel
theorem w_x_law_taken_10 : stB g_x_law_taken 10 "_law_taken_here" = true := by decide +kernel
theorem c_x_law_taken {G : Gd} (gr : g_x_law_taken.Gr G) : CSs G g_x_law_taken (defBody s_x_law_taken) m_x_law_taken := (css_cons (cs_lcOO w_x_law_taken_4 (by decide +kernel) (own := [("_law_pile_here", 5)]) (ci_val (ce_v v_x_law_taken_0)) (by decide +kernel) (by decide) (cg_n (by decide +kernel)) cts_nil (co_tn (gr.blk _) b_list boot_list (by decide +kernel) (ca_cons rfl (ce_v (by decide +kernel)) ca_nil)) rfl) (css_cons (cs_so w_x_law_taken_6 (by decide +kernel) (co_lc (own := [("_law_pile_here", 5)]) (ci_val (ce_v v_x_law_taken_0)) (by decide +kernel) (by decide) (cg_n (by decide +kernel)) cts_nil ce_int rfl)) (css_cons (cs_for rfl (ci_val (ce_bin o_add (ce_of_co (co_tn gr b_list boot_list (by decide +kernel) (ca_cons rfl (ce_v v_x_law_taken_2) ca_nil))) (ce_of_co (co_lst (ca_cons rfl ce_non ca_nil))))) (cg_n w_x_law_taken_7) (css_one (cs_forEP gr (by decide +kernel) w_x_law_taken_5 w_x_law_taken_8 (css_one (cs_if (CW.ct (cw_and (CW.ct (cw_or (ct_cmp o_is rfl (ce_v v_x_law_taken_7) ce_non) (cw_or1 (ct_cmp o_eq rfl (ce_pl (cp_ix rfl (cp_v v_x_law_taken_5) ce_int)) (ce_v v_x_law_taken_7))))) (cw_and1 (CW.ct (cw_or (ct_cmp o_eq rfl (ce_pl (cp_ix rfl (cp_v v_x_law_taken_5) ce_int)) ce_str) (cw_or1 (ct_not (ct_val rfl (ce_v v_x_law_taken_3))))))))) (css_cons (cs_s w_x_law_taken_9 (by decide +kernel) (ce_bn gr b_min boot_min (by decide +kernel) (ca_cons rfl (ce_v v_x_law_taken_1) (ca_cons rfl (ce_pl (cp_ix rfl (cp_v v_x_law_taken_5) ce_int)) ca_nil)))) (css_cons (cs_sub v_x_law_taken_6 (by decide +kernel) (ce_v v_x_law_taken_8) (ce_view (ce_bin o_add (ce_ix rfl (ce_v v_x_law_taken_6) (ce_v v_x_law_taken_8)) (ce_v v_x_law_taken_9)))) (css_cons (cs_subP (by decide +kernel) (cp_v v_x_law_taken_5) ce_int (ce_bin o_sub (ce_pl (cp_ix rfl (cp_v v_x_law_taken_5) ce_int)) (ce_v v_x_law_taken_9))) (css_one (cs_s w_x_law_taken_1 (by decide +kernel) (ce_bin o_sub (ce_v v_x_law_taken_1) (ce_v v_x_law_taken_9))))))) css_nil))))) (css_cons (cs_frz 6 (cs_lcV w_x_law_taken_10 (by decide +kernel) (own := [("_law_k", 8)]) (ci_r1 gr (by decide +kernel) (ce_bn gr b_len boot_len (by decide +kernel) (ca_cons rfl (ce_v v_x_law_taken_0) ca_nil))) (by decide +kernel) (by decide) (cg_n (by decide +kernel)) (cts_one (ct_cmp o_gt rfl (ce_ix rfl (ce_v (by decide +kernel)) (ce_v (by decide +kernel))) ce_int)) (ce_bin o_add (ce_sl (ce_ix rfl (ce_v (by decide +kernel)) (ce_v (by decide +kernel))) cp_none (cp_some ce_int)) (ce_tup (ca_cons rfl (ce_ix rfl (ce_v (by decide +kernel)) (ce_v (by decide +kernel))) ca_nil))) rfl)) (css_one (cs_frz 4 (cs_ret (ce_tup (ca_cons rfl (ce_v v_x_law_taken_10) (ca_cons rfl (ce_of_co (co_lc (own := [("_law_pile_here", 5)]) (ci_val (ce_v v_x_law_taken_4)) (by decide +kernel) (by decide) (cg_n (by decide +kernel)) (cts_one (ct_cmp o_gt rfl (ce_ix rfl (ce_v (by decide +kernel)) ce_int) ce_int)) (ce_tn (gr.blk _) b_tuple boot_tuple (by decide +kernel) (ca_cons rfl (ce_v (by decide +kernel)) ca_nil)) rfl)) ca_nil))))))))))
theorem sc_x_law_taken : FnScope g_x_law_taken.N ["_law_row_here", "_law_points", "_law_first_here", "_law_own"] (defScope s_x_law_taken) := ⟨rfl, rfl, rfl, by decide +kernel, rfl, by decide +kernel, by decide +kernel⟩

abbrev s_x_law_first : Stmt := topS 15
noncomputable def l_x_law_first_0 : Sl → R D := (mVar 3)
noncomputable def l_x_law_first_1 : Sl → R D := (m2 fIx (mVar 2) (m2 fMod (m2 fAdd (m2 fDiv (mVar 1) (mC (.int 9))) (m2 fMul (mC (.int 3)) (mVar 5))) (mC (.int 8))))
noncomputable def m_x_law_first : Sl → RS := (sSeq (sSet 2 (m2 fAdd (mVar 0) (mSl (mFr (mLc (mIt (mFr (mLst (mCons (mC (.str "zz")) (mCons (mC (.str "y")) (mCons (mC (.str "q")) (mCons (mC (.str "xx")) mNil))))))) [3] (put 3) (mB (m2 fNin (mVar 3) (mVar 0))) l_x_law_first_0)) mNoP (mP (mC (.int 2)))))) (sSeq (sSet 4 (mFr (mLc (mRg1 (mC (.int 8))) [5] (put 5) mYes l_x_law_first_1))) (sRet (mSl (mVar 4) mNoP (mP (m2 fIx (mTup (mCons (mC (.int 0)) (mCons (mC (.int 1)) (mCons (mC (.int 2)) (mCons (mC (.int 3)) (mCons (mC (.int 8)) (mCons (mC (.int 0)) (mCons (mC (.int 1)) (mCons (mC (.int 5)) (mCons (mC (.int 2)) mNil)))))))))) (m2 fMod (mVar 1) (mC (.int 9)))))))))
noncomputable def e_x_law_first : FE := ⟨"_law_first", 1, 2, runD 6 m_x_law_first 2⟩
noncomputable def g_x_law_first : Gm := { N := ["_law_names_here", "_law_number", "_law_some", "_law_name", "_law_turned", "_law_k"], sc := defScope s_x_law_first, T := [], X := ["range"], C := [], k := 0, st := fun _ => true, E := [], I := [], Q := [] }
theorem v_x_law_first_0 : varB g_x_law_first 0 "_law_names_here" = true := by decide +kernel
theorem v_x_law_first_4 : varB g_x_law_first 4 "_law_turned" = true := by decide +kernel
theorem v_x_law_first_1 : varB g_x_law_first 1 "_law_number" = true := by decide +kernel
theorem w_x_law_first_2 : stB g_x_law_first 2 "_law_some" = true := by decide +kernel
theorem w_x_law_first_4 : stB g_x_law_first 4 "_law_turned" = true := by decide +kernel
theorem c_x_law_first {G : Gd} (gr : g_x_law_first.Gr G) : CSs G g_x_law_first (defBody s_x_law_first) m_x_law_first := (css_cons (cs_s w_x_law_first_2 (by decide +kernel) (ce_bin o_add (ce_v v_x_law_first_0) (ce_sl (ce_of_co (co_lc (own := [("_law_name", 3)]) (ci_val (ce_of_co (co_lst (ca_cons rfl ce_str (ca_cons rfl ce_str (ca_cons rfl ce_str (ca_cons rfl ce_str ca_nil))))))) (by decide +kernel) (by decide) (cg_n (by decide +kernel)) (cts_one (ct_cmp o_nin rfl (ce_v (by decide +kernel)) (ce_v (by decide +kernel)))) (ce_v (by decide +kernel)) rfl)) cp_none (cp_some ce_int)))) (css_cons (cs_lcV w_x_law_first_4 (by decide +kernel) (own := [("_law_k", 5)]) (ci_r1 gr (by decide +kernel) ce_int) (by decide +kernel) (by decide) (cg_n (by decide +kernel)) cts_nil (ce_ix rfl (ce_v (by decide +kernel)) (ce_bin o_mod (ce_bin o_add (ce_bin o_div (ce_v (by decide +kernel)) ce_int) (ce_bin o_mul ce_int (ce_v (by decide +kernel)))) ce_int)) rfl) (css_one (cs_ret (ce_sl (ce_v v_x_law_first_4) cp_none (cp_some (ce_ix rfl (ce_tup (ca_cons rfl ce_int (ca_cons rfl ce_int (ca_cons rfl ce_int (ca_cons rfl ce_int (ca_cons rfl ce_int (ca_cons rfl ce_int (ca_cons rfl ce_int (ca_cons rfl ce_int (ca_cons rfl ce_int ca_nil)))))))))) (ce_bin o_mod (ce_v v_x_law_first_1) ce_int))))))))
theorem sc_x_law_first : FnScope g_x_law_first.N ["_law_names_here", "_law_number"] (defScope s_x_law_first) := ⟨rfl, rfl, rfl, by decide +kernel, rfl, by decide +kernel, by decide +kernel⟩

abbrev s_x_law_wanted : Stmt := topS 16
noncomputable def l_x_law_wanted_0 : Sl → R D := (m2 fIx (mVar 4) (mC (.int 3)))
noncomputable def m_x_law_wanted : Sl → RS := (sSeq (sSet 3 (mF fSum (mCons (mFr (mLc (mIt (mVar 0)) [4] (put 4) (mOr (mB (m2 fEq (m2 fIx (mVar 4) (mC (.int 2))) (mC (.str "")))) (mNot (mB (mVar 1)))) l_x_law_wanted_0)) mNil))) (sSeq (sSet 5 (mTup (mCons (mC (.int 0)) (mCons (mC (.int 1)) (mCons (m2 fMod (mVar 2) (mC (.int 9))) (mCons (m2 fMod (mVar 2) (m2 fAdd (mVar 3) (mC (.int 1)))) (mCons (mVar 3) (mCons (m2 fAdd (m2 fAdd (mVar 3) (mC (.int 1))) (m2 fMod (mVar 2) (mC (.int 9)))) (mCons (m2 fSub (mVar 3) (mF fInt (mCons (m2 fGt (mVar 3) (mC (.int 0))) mNil))) (mCons (mVar 2) mNil)))))))))) (sRet (m2 fIx (mVar 5) (m2 fMod (m2 fDiv (mVar 2) (mC (.int 16))) (mC (.int 8)))))))
noncomputable def e_x_law_wanted : FE := ⟨"_law_wanted", 1, 3, runD 6 m_x_law_wanted 3⟩
noncomputable def g_x_law_wanted : Gm := { N := ["_law_row_here", "_law_own", "_law_number", "_law_whole_here", "_law_pile_here", "_law_some"], sc := defScope s_x_law_wanted, T := [], X := ["sum", "int"], C := [], k := 0, st := fun _ => true, E := [], I := [], Q := [] }
theorem v_x_law_wanted_0 : varB g_x_law_wanted 0 "_law_row_here" = true := by decide +kernel
theorem v_x_law_wanted_2 : varB g_x_law_wanted 2 "_law_number" = true := by decide +kernel
theorem v_x_law_wanted_3 : varB g_x_law_wanted 3 "_law_whole_here" = true := by decide +kernel
theorem v_x_law_wanted_5 : varB g_x_law_wanted 5 "_law_some" = true := by decide +kernel
theorem w_x_law_wanted_3 : stB g_x_law_wanted 3 "_law_whole_here" = true := by decide +kernel
theorem w_x_law_wanted_5 : stB g_x_law_wanted 5 "_law_some" = true := by decide +kernel
theorem c_x_law_wanted {G : Gd} (gr : g_x_law_wanted.Gr G) : CSs G g_x_law_wanted (defBody s_x_law_wanted) m_x_law_wanted := (css_cons (cs_s w_x_law_wanted_3 (by decide +kernel) (ce_bn gr b_sum boot_sum (by decide +kernel) (ca_cons rfl (ce_of_co (co_lc (own := [("_law_pile_here", 4)]) (ci_val (ce_v v_x_law_wanted_0)) (by decide +kernel) (by decide) (cg_n (by decide +kernel)) (cts_one (CW.ct (cw_or (ct_cmp o_eq rfl (ce_ix rfl (ce_v (by decide +kernel)) ce_int) ce_str) (cw_or1 (ct_not (ct_val rfl (ce_v (by decide +kernel)))))))) (ce_ix rfl (ce_v (by decide +kernel)) ce_int) rfl)) ca_nil))) (css_cons (cs_s w_x_law_wanted_5 (by decide +kernel) (ce_tup (ca_cons rfl ce_int (ca_cons rfl ce_int (ca_cons rfl (ce_bin o_mod (ce_v v_x_law_wanted_2) ce_int) (ca_cons rfl (ce_bin o_mod (ce_v v_x_law_wanted_2) (ce_bin o_add (ce_v v_x_law_wanted_3) ce_int)) (ca_cons rfl (ce_v v_x_law_wanted_3) (ca_cons rfl (ce_bin o_add (ce_bin o_add (ce_v v_x_law_wanted_3) ce_int) (ce_bin o_mod (ce_v v_x_law_wanted_2) ce_int)) (ca_cons rfl (ce_bin o_sub (ce_v v_x_law_wanted_3) (ce_tn gr b_int boot_int (by decide +kernel) (ca_cons rfl (ce_cmp o_gt rfl (ce_v v_x_law_wanted_3) ce_int) ca_nil))) (ca_cons rfl (ce_v v_x_law_wanted_2) ca_nil)))))))))) (css_one (cs_ret (ce_ix rfl (ce_v v_x_law_wanted_5) (ce_bin o_mod (ce_bin o_div (ce_v v_x_law_wanted_2) ce_int) ce_int))))))
theorem sc_x_law_wanted : FnScope g_x_law_wanted.N ["_law_row_here", "_law_own", "_law_number"] (defScope s_x_law_wanted) := ⟨rfl, rfl, rfl, by decide +kernel, rfl, by decide +kernel, by decide +kernel⟩

abbrev s_x_law_is_pair : Stmt := topS 17
noncomputable def m_x_law_is_pair : Sl → RS := (sSeq (sIf (mOr (mNot (mB (m1 (fIsi "tuple") (mVar 0)))) (mB (m2 fNe (mF fLen (mCons (mVar 0) mNil)) (mC (.int 2))))) (sRet (mC (.bl false))) sNext) (sRet (vAnd (mFr (mCall e_x_law_is_row.fn (mCons (m2 fIx (mVar 0) (mC (.int 0))) (mCons (m2 fIx (mVar 1) (mC (.int 0))) mNil)))) (mFr (mCall e_x_law_is_row.fn (mCons (m2 fIx (mVar 0) (mC (.int 1))) (mCons (m2 fIx (mVar 1) (mC (.int 1))) mNil)))))))
noncomputable def e_x_law_is_pair : FE := ⟨"_law_is_pair", 3, 2, runD 2 m_x_law_is_pair 2⟩
noncomputable def g_x_law_is_pair : Gm := { N := ["_law_found", "_law_due"], sc := defScope s_x_law_is_pair, T := [e_x_law_is_row], X := ["isinstance", "tuple", "len"], C := [], k := 2, st := fun _ => true, E := [], I := [], Q := [] }
theorem v_x_law_is_pair_0 : varB g_x_law_is_pair 0 "_law_found" = true := by decide +kernel
theorem v_x_law_is_pair_1 : varB g_x_law_is_pair 1 "_law_due" = true := by decide +kernel
theorem c_x_law_is_pair {G : Gd} (gr : g_x_law_is_pair.Gr G) : CSs G g_x_law_is_pair (defBody s_x_law_is_pair) m_x_law_is_pair := (css_cons (cs_if (CW.ct (cw_or (ct_not (ct_val rfl (ce_isn gr boot_tuple (by decide +kernel) (ce_v v_x_law_is_pair_0)))) (cw_or1 (ct_cmp o_ne rfl (ce_bn gr b_len boot_len (by decide +kernel) (ca_cons rfl (ce_v v_x_law_is_pair_0) ca_nil)) ce_int)))) (css_one (cs_ret ce_bl)) css_nil) (css_one (cs_ret (ce_and (ce_of_co (co_cn (e := e_x_law_is_row) gr (.head _) (by decide +kernel) (ca_cons rfl (ce_ix rfl (ce_v v_x_law_is_pair_0) ce_int) (ca_cons rfl (ce_ix rfl (ce_v v_x_law_is_pair_1) ce_int) ca_nil)))) (ce_one (ce_of_co (co_cn (e := e_x_law_is_row) gr (.head _) (by decide +kernel) (ca_cons rfl (ce_ix rfl (ce_v v_x_law_is_pair_0) ce_int) (ca_cons rfl (ce_ix rfl (ce_v v_x_law_is_pair_1) ce_int) ca_nil)))))))))
theorem sc_x_law_is_pair : FnScope g_x_law_is_pair.N ["_law_found", "_law_due"] (defScope s_x_law_is_pair) := ⟨rfl, rfl, rfl, by decide +kernel, rfl, by decide +kernel, by decide +kernel⟩

abbrev s_x_law_step_right : Stmt := topS 18
noncomputable def l_x_law_step_right_0 : Sl → R D := (m2 fIx (mVar 7) (mC (.int 3)))
noncomputable def l_x_law_step_right_1 : Sl → R D := (m2 fIx (mVar 7) (mC (.int 3)))
noncomputable def l_x_law_step_right_2 : Sl → R D := (mVar 7)
noncomputable def l_x_law_step_right_3 : Sl → R D := (mVar 7)
noncomputable def l_x_law_step_right_4 : Sl → R D := (mVar 7)
noncomputable def b_x_law_step_right_0 : Sl → RS := (sSeq (sSet 10 (mFr (mLc (mIt (mVar 2)) [7] (put 7) (mAnd (mB (m2 fEq (m2 fIx (mVar 7) (mC (.int 1))) (mVar 9))) (mOr (mB (m2 fEq (m2 fIx (mVar 7) (mC (.int 2))) (mC (.str "")))) (mNot (mB (mVar 5))))) l_x_law_step_right_3))) (sSeq (sSet 11 (mFr (mLc (mIt (mVar 1)) [7] (put 7) (mB (m2 fNin (m2 fIx (mVar 7) (mC (.int 1))) (mSl (mVar 4) mNoP (mP (m2 fAdd (mVar 8) (mC (.int 1))))))) l_x_law_step_right_4))) (sIf (mAnd (mB (m2 fNe (mVar 10) (mFr (mLst mNil)))) (mB (m2 fNe (mVar 11) (mFr (mLst mNil))))) (sRet (mC (.bl false))) sNext)))
noncomputable def m_x_law_step_right : Sl → RS := (sSeq (sIf (mB (m2 fNe (mFr (mCall e_x_law_row.fn (mCons (mVar 2) (mCons (mVar 1) mNil)))) (mVar 0))) (sRet (mC (.bl false))) sNext) (sSeq (sSet 6 (mF fSum (mCons (mFr (mLc (mIt (mVar 0)) [7] (put 7) (mOr (mB (m2 fEq (m2 fIx (mVar 7) (mC (.int 2))) (mC (.str "")))) (mNot (mB (mVar 5)))) l_x_law_step_right_0)) mNil))) (sSeq (sIf (mB (m2 fNe (mF fSum (mCons (mFr (mLc (mIt (mVar 1)) [7] (put 7) mYes l_x_law_step_right_1)) mNil)) (mF fMin (mCons (mVar 3) (mCons (mVar 6) mNil))))) (sRet (mC (.bl false))) sNext) (sSeq (sIf (mAnd (mB (mVar 5)) (mB (m2 fNe (mFr (mLc (mIt (mVar 1)) [7] (put 7) (mB (m2 fNe (m2 fIx (mVar 7) (mC (.int 2))) (mC (.str "")))) l_x_law_step_right_2)) (mFr (mLst mNil))))) (sRet (mC (.bl false))) sNext) (sSeq (sFor (mEn (mVar 4)) (putTup 2 (putCons (put 8) (putCons (put 9) putNil))) b_x_law_step_right_0) (sRet (mC (.bl true))))))))
noncomputable def e_x_law_step_right : FE := ⟨"_law_step_right", 3, 6, runD 12 m_x_law_step_right 6⟩
noncomputable def g_x_law_step_right : Gm := { N := ["_law_row_here", "_law_taken_here", "_law_left", "_law_points", "_law_first_here", "_law_own", "_law_may", "_law_pile_here", "_law_k", "_law_name", "_law_over", "_law_behind"], sc := defScope s_x_law_step_right, T := [e_x_law_row], X := ["sum", "min", "enumerate"], C := [], k := 2, st := fun _ => true, E := [], I := [], Q := [] }
theorem v_x_law_step_right_1 : varB g_x_law_step_right 1 "_law_taken_here" = true := by decide +kernel
theorem v_x_law_step_right_2 : varB g_x_law_step_right 2 "_law_left" = true := by decide +kernel
theorem v_x_law_step_right_0 : varB g_x_law_step_right 0 "_law_row_here" = true := by decide +kernel
theorem v_x_law_step_right_6 : varB g_x_law_step_right 6 "_law_may" = true := by decide +kernel
theorem v_x_law_step_right_3 : varB g_x_law_step_right 3 "_law_points" = true := by decide +kernel
theorem v_x_law_step_right_5 : varB g_x_law_step_right 5 "_law_own" = true := by decide +kernel
theorem v_x_law_step_right_4 : varB g_x_law_step_right 4 "_law_first_here" = true := by decide +kernel
theorem v_x_law_step_right_10 : varB g_x_law_step_right 10 "_law_over" = true := by decide +kernel
theorem v_x_law_step_right_11 : varB g_x_law_step_right 11 "_law_behind" = true := by decide +kernel
theorem w_x_law_step_right_6 : stB g_x_law_step_right 6 "_law_may" = true := by decide +kernel
theorem w_x_law_step_right_9 : stB g_x_law_step_right 9 "_law_name" = true := by decide +kernel
theorem w_x_law_step_right_8 : stB g_x_law_step_right 8 "_law_k" = true := by decide +kernel
theorem w_x_law_step_right_10 : stB g_x_law_step_right 10 "_law_over" = true := by decide +kernel
theorem w_x_law_step_right_11 : stB g_x_law_step_right 11 "_law_behind" = true := by decide +kernel
theorem c_x_law_step_right {G : Gd} (gr : g_x_law_step_right.Gr G) : CSs G g_x_law_step_right (defBody s_x_law_step_right) m_x_law_step_right := (css_cons (cs_if (ct_cmp o_ne rfl (ce_of_co (co_cn (e := e_x_law_row) gr (.head _) (by decide +kernel) (ca_cons rfl (ce_v v_x_law_step_right_2) (ca_cons rfl (ce_v v_x_law_step_right_1) ca_nil)))) (ce_v v_x_law_step_right_0)) (css_one (cs_ret ce_bl)) css_nil) (css_cons (cs_s w_x_law_step_right_6 (by decide +kernel) (ce_bn gr b_sum boot_sum (by decide +kernel) (ca_cons rfl (ce_of_co (co_lc (own := [("_law_pile_here", 7)]) (ci_val (ce_v v_x_law_step_right_0)) (by decide +kernel) (by decide) (cg_n (by decide +kernel)) (cts_one (CW.ct (cw_or (ct_cmp o_eq rfl (ce_ix rfl (ce_v (by decide +kernel)) ce_int) ce_str) (cw_or1 (ct_not (ct_val rfl (ce_v (by decide +kernel)))))))) (ce_ix rfl (ce_v (by decide +kernel)) ce_int) rfl)) ca_nil))) (css_cons (cs_if (ct_cmp o_ne rfl (ce_bn gr b_sum boot_sum (by decide +kernel) (ca_cons rfl (ce_of_co (co_lc (own := [("_law_pile_here", 7)]) (ci_val (ce_v v_x_law_step_right_1)) (by decide +kernel) (by decide) (cg_n (by decide +kernel)) cts_nil (ce_ix rfl (ce_v (by decide +kernel)) ce_int) rfl)) ca_nil)) (ce_bn gr b_min boot_min (by decide +kernel) (ca_cons rfl (ce_v v_x_law_step_right_3) (ca_cons rfl (ce_v v_x_law_step_right_6) ca_nil)))) (css_one (cs_ret ce_bl)) css_nil) (css_cons (cs_if (CW.ct (cw_and (ct_val rfl (ce_v v_x_law_step_right_5)) (cw_and1 (ct_cmp o_ne rfl (ce_of_co (co_lc (own := [("_law_pile_here", 7)]) (ci_val (ce_v v_x_law_step_right_1)) (by decide +kernel) (by decide) (cg_n (by decide +kernel)) (cts_one (ct_cmp o_ne rfl (ce_ix rfl (ce_v (by decide +kernel)) ce_int) ce_str)) (ce_v (by decide +kernel)) rfl)) (ce_of_co (co_lst ca_nil)))))) (css_one (cs_ret ce_bl)) css_nil) (css_cons (cs_for rfl (ci_en gr (by decide +kernel) (ce_v v_x_law_step_right_4)) (cg_tup rfl (cgs_cons rfl (cg_n w_x_law_step_right_8) (cgs_cons rfl (cg_n w_x_law_step_right_9) cgs_nil))) (css_cons (cs_lcV w_x_law_step_right_10 (by decide +kernel) (own := [("_law_pile_here", 7)]) (ci_val (ce_v v_x_law_step_right_2)) (by decide +kernel) (by decide) (cg_n (by decide +kernel)) (cts_one (CW.ct (cw_and (ct_cmp o_eq rfl (ce_ix rfl (ce_v (by decide +kernel)) ce_int) (ce_v (by decide +kernel))) (cw_and1 (CW.ct (cw_or (ct_cmp o_eq rfl (ce_ix rfl (ce_v (by decide +kernel)) ce_int) ce_str) (cw_or1 (ct_not (ct_val rfl (ce_v (by decide +kernel))))))))))) (ce_v (by decide +kernel)) rfl) (css_cons (cs_lcV w_x_law_step_right_11 (by decide +kernel) (own := [("_law_pile_here", 7)]) (ci_val (ce_v v_x_law_step_right_1)) (by decide +kernel) (by decide) (cg_n (by decide +kernel)) (cts_one (ct_cmp o_nin rfl (ce_ix rfl (ce_v (by decide +kernel)) ce_int) (ce_sl (ce_v (by decide +kernel)) cp_none (cp_some (ce_bin o_add (ce_v (by decide +kernel)) ce_int))))) (ce_v (by decide +kernel)) rfl) (css_one (cs_if (CW.ct (cw_and (ct_cmp o_ne rfl (ce_v v_x_law_step_right_10) (ce_of_co (co_lst ca_nil))) (cw_and1 (ct_cmp o_ne rfl (ce_v v_x_law_step_right_11) (ce_of_co (co_lst ca_nil)))))) (css_one (cs_ret ce_bl)) css_nil))))) (css_one (cs_ret ce_bl)))))))
theorem sc_x_law_step_right : FnScope g_x_law_step_right.N ["_law_row_here", "_law_taken_here", "_law_left", "_law_points", "_law_first_here", "_law_own"] (defScope s_x_law_step_right) := ⟨rfl, rfl, rfl, by decide +kernel, rfl, by decide +kernel, by decide +kernel⟩

abbrev s_law : Stmt := topS 19
noncomputable def l_law_0 : Sl → R D := (m2 fIx (mVar 13) (mC (.int 3)))
noncomputable def b_law_0 : Sl → RS := (sSeq (sSet 11 (mFr (mCall e_x_law_mix.fn (mCons (mVar 10) (mCons (m2 fAdd (mVar 9) (mC (.int 1))) mNil))))) (sSeq (sSet 12 (mF fSum (mCons (mFr (mLc (mIt (mVar 6)) [13] (put 13) mYes l_law_0)) mNil))) (sSeq (sSet 14 (m2 fIx (mTup (mCons (m2 fMod (m2 fDiv (mVar 11) (mC (.int 4))) (mC (.int 5))) (mCons (m2 fMod (m2 fDiv (mVar 11) (mC (.int 4))) (mC (.int 30))) (mCons (m2 fDiv (mVar 12) (mC (.int 8))) (mCons (m2 fMul (mVar 12) (mF fInt (mCons (m2 fEq (m2 fMod (m2 fDiv (mVar 11) (mC (.int 64))) (mC (.int 16))) (mC (.int 0))) mNil))) mNil))))) (m2 fMod (mVar 11) (mC (.int 4))))) (sSeq (sSet 15 (mFr (mCall e_drawn.fn (mCons (mFr (mFO fList (mCons (mVar 6) mNil))) (mCons (mVar 14) (mCons (mFr (mFO fList (mCons (mVar 5) mNil))) (mCons (mVar 4) mNil))))))) (sSeq (sIf (mNot (mB (mFr (mCall e_x_law_is_pair.fn (mCons (mVar 15) (mCons (mVar 15) mNil)))))) (sRet (mC (.bl false))) sNext) (sSeq (sIf (mNot (mB (mFr (mCall e_x_law_step_right.fn (mCons (mVar 6) (mCons (m2 fIx (mVar 15) (mC (.int 0))) (mCons (m2 fIx (mVar 15) (mC (.int 1))) (mCons (mVar 14) (mCons (mVar 5) (mCons (mVar 4) mNil)))))))))) (sRet (mC (.bl false))) sNext) (sSeq (sSet 7 (mFr (mCall e_x_law_row.fn (mCons (mVar 7) (mCons (m2 fIx (mVar 15) (mC (.int 0))) mNil))))) (sSeq (sSet 6 (m2 fIx (mVar 15) (mC (.int 1)))) (sSet 8 (m2 fAdd (mVar 8) (mVar 14)))))))))))
noncomputable def m_law : Sl → RS := (sSeq (sSet 1 (mFr (mCall e_x_law_names.fn (mCons (mFr (mCall e_x_law_at.fn (mCons (mVar 0) (mCons (mC (.int 1)) mNil)))) (mCons (mC (.int 6)) mNil))))) (sSeq (sSet 2 (mFr (mCall e_x_law_row.fn (mCons (mFr (mLst mNil)) (mCons (mFr (mCall e_x_law_piles.fn (mCons (mVar 0) (mCons (mVar 1) (mCons (mC (.int 0)) (mCons (mFr (mCall e_x_law_many.fn (mCons (mFr (mCall e_x_law_at.fn (mCons (mVar 0) (mCons (mC (.int 0)) mNil)))) mNil))) mNil)))))) mNil))))) (sSeq (sSet 3 (mFr (mCall e_x_law_mix.fn (mCons (mFr (mCall e_x_law_at.fn (mCons (mVar 0) (mCons (mC (.int 0)) mNil)))) (mCons (mC (.int 5)) mNil))))) (sSeq (sSet 4 (m2 fEq (m2 fMod (mVar 3) (mC (.int 2))) (mC (.int 1)))) (sSeq (sSet 5 (mFr (mCall e_x_law_first.fn (mCons (mVar 1) (mCons (m2 fDiv (mVar 3) (mC (.int 2))) mNil))))) (sSeq (sSet 6 (mFr (mFO fList (mCons (mVar 2) mNil)))) (sSeq (sSet 7 (mFr (mLst mNil))) (sSeq (sSet 8 (mC (.int 0))) (sSeq (sFor (mEn (mSl (mVar 0) mNoP (mP (mC (.int 63))))) (putTup 2 (putCons (put 9) (putCons (put 10) putNil))) b_law_0) (sSeq (sSet 16 (mFr (mCall e_drawn.fn (mCons (mVar 2) (mCons (mVar 8) (mCons (mVar 5) (mCons (mVar 4) mNil))))))) (sRetO (mCall e_x_law_is_pair.fn (mCons (mVar 16) (mCons (mTup (mCons (mVar 7) (mCons (mVar 6) mNil))) mNil))))))))))))))
noncomputable def e_law : FE := ⟨"law", 4, 1, runD 17 m_law 1⟩
noncomputable def g_law : Gm := { N := ["_law_script", "_law_names_here", "_law_row_here", "_law_number", "_law_own", "_law_first_here", "_law_left", "_law_gone", "_law_wanted_here", "_law_k", "_law_cell", "_law_m", "_law_whole_here", "_law_pile_here", "_law_points", "_law_found", "_law_at_once"], sc := defScope s_law, T := [e_x_law_names, e_x_law_at, e_x_law_row, e_x_law_piles, e_x_law_many, e_x_law_mix, e_x_law_first, e_drawn, e_x_law_is_pair, e_x_law_step_right], X := ["list", "enumerate", "sum", "int"], C := [], k := 3, st := fun _ => true, E := [], I := [], Q := [] }
theorem v_law_0 : varB g_law 0 "_law_script" = true := by decide +kernel
theorem v_law_1 : varB g_law 1 "_law_names_here" = true := by decide +kernel
theorem v_law_3 : varB g_law 3 "_law_number" = true := by decide +kernel
theorem v_law_2 : varB g_law 2 "_law_row_here" = true := by decide +kernel
theorem v_law_9 : varB g_law 9 "_law_k" = true := by decide +kernel
theorem v_law_10 : varB g_law 10 "_law_cell" = true := by decide +kernel
theorem v_law_6 : varB g_law 6 "_law_left" = true := by decide +kernel
theorem v_law_12 : varB g_law 12 "_law_whole_here" = true := by decide +kernel
theorem v_law_11 : varB g_law 11 "_law_m" = true := by decide +kernel
theorem v_law_4 : varB g_law 4 "_law_own" = true := by decide +kernel
theorem v_law_5 : varB g_law 5 "_law_first_here" = true := by decide +kernel
theorem v_law_14 : varB g_law 14 "_law_points" = true := by decide +kernel
theorem v_law_15 : varB g_law 15 "_law_found" = true := by decide +kernel
theorem v_law_7 : varB g_law 7 "_law_gone" = true := by decide +kernel
theorem v_law_8 : varB g_law 8 "_law_wanted_here" = true := by decide +kernel
theorem v_law_16 : varB g_law 16 "_law_at_once" = true := by decide +kernel
theorem w_law_1 : stB g_law 1 "_law_names_here" = true := by decide +kernel
theorem w_law_2 : stB g_law 2 "_law_row_here" = true := by decide +kernel
theorem w_law_3 : stB g_law 3 "_law_number" = true := by decide +kernel
theorem w_law_4 : stB g_law 4 "_law_own" = true := by decide +kernel
theorem w_law_5 : stB g_law 5 "_law_first_here" = true := by decide +kernel
theorem w_law_6 : stB g_law 6 "_law_left" = true := by decide +kernel
theorem w_law_7 : stB g_law 7 "_law_gone" = true := by decide +kernel
theorem w_law_8 : stB g_law 8 "_law_wanted_here" = true := by decide +kernel
theorem w_law_10 : stB g_law 10 "_law_cell" = true := by decide +kernel
theorem w_law_9 : stB g_law 9 "_law_k" = true := by decide +kernel
theorem w_law_11 : stB g_law 11 "_law_m" = true := by decide +kernel
theorem w_law_12 : stB g_law 12 "_law_whole_here" = true := by decide +kernel
theorem w_law_14 : stB g_law 14 "_law_points" = true := by decide +kernel
theorem w_law_15 : stB g_law 15 "_law_found" = true := by decide +kernel
theorem w_law_16 : stB g_law 16 "_law_at_once" = true := by decide +kernel
theorem c_law {G : Gd} (gr : g_law.Gr G) : CSs G g_law (defBody s_law) m_law := (css_cons (cs_s w_law_1 (by decide +kernel) (ce_of_co (co_cn (e := e_x_law_names) gr (.head _) (by decide +kernel) (ca_cons rfl (ce_of_co (co_cn (e := e_x_law_at) gr (.tail _ (.head _)) (by decide +kernel) (ca_cons rfl (ce_v v_law_0) (ca_cons rfl ce_int ca_nil)))) (ca_cons rfl ce_int ca_nil))))) (css_cons (cs_s w_law_2 (by decide +kernel) (ce_of_co (co_cn (e := e_x_law_row) gr (.tail _ (.tail _ (.head _))) (by decide +kernel) (ca_cons rfl (ce_of_co (co_lst ca_nil)) (ca_cons rfl (ce_of_co (co_cn (e := e_x_law_piles) gr (.tail _ (.tail _ (.tail _ (.head _)))) (by decide +kernel) (ca_cons rfl (ce_v v_law_0) (ca_cons rfl (ce_v v_law_1) (ca_cons rfl ce_int (ca_cons rfl (ce_of_co (co_cn (e := e_x_law_many) gr (.tail _ (.tail _ (.tail _ (.tail _ (.head _))))) (by decide +kernel) (ca_cons rfl (ce_of_co (co_cn (e := e_x_law_at) gr (.tail _ (.head _)) (by decide +kernel) (ca_cons rfl (ce_v v_law_0) (ca_cons rfl ce_int ca_nil)))) ca_nil))) ca_nil)))))) ca_nil))))) (css_cons (cs_s w_law_3 (by decide +kernel) (ce_of_co (co_cn (e := e_x_law_mix) gr (.tail _ (.tail _ (.tail _ (.tail _ (.tail _ (.head _)))))) (by decide +kernel) (ca_cons rfl (ce_of_co (co_cn (e := e_x_law_at) gr (.tail _ (.head _)) (by decide +kernel) (ca_cons rfl (ce_v v_law_0) (ca_cons rfl ce_int ca_nil)))) (ca_cons rfl ce_int ca_nil))))) (css_cons (cs_s w_law_4 (by decide +kernel) (ce_cmp o_eq rfl (ce_bin o_mod (ce_v v_law_3) ce_int) ce_int)) (css_cons (cs_s w_law_5 (by decide +kernel) (ce_of_co (co_cn (e := e_x_law_first) gr (.tail _ (.tail _ (.tail _ (.tail _ (.tail _ (.tail _ (.head _))))))) (by decide +kernel) (ca_cons rfl (ce_v v_law_1) (ca_cons rfl (ce_bin o_div (ce_v v_law_3) ce_int) ca_nil))))) (css_cons (cs_s w_law_6 (by decide +kernel) (ce_of_co (co_tn gr b_list boot_list (by decide +kernel) (ca_cons rfl (ce_v v_law_2) ca_nil)))) (css_cons (cs_s w_law_7 (by decide +kernel) (ce_of_co (co_lst ca_nil))) (css_cons (cs_s w_law_8 (by decide +kernel) ce_int) (css_cons (cs_for rfl (ci_en gr (by decide +kernel) (ce_sl (ce_v v_law_0) cp_none (cp_some ce_int))) (cg_tup rfl (cgs_cons rfl (cg_n w_law_9) (cgs_cons rfl (cg_n w_law_10) cgs_nil))) (css_cons (cs_s w_law_11 (by decide +kernel) (ce_of_co (co_cn (e := e_x_law_mix) gr (.tail _ (.tail _ (.tail _ (.tail _ (.tail _ (.head _)))))) (by decide +kernel) (ca_cons rfl (ce_v v_law_10) (ca_cons rfl (ce_bin o_add (ce_v v_law_9) ce_int) ca_nil))))) (css_cons (cs_s w_law_12 (by decide +kernel) (ce_bn gr b_sum boot_sum (by decide +kernel) (ca_cons rfl (ce_of_co (co_lc (own := [("_law_pile_here", 13)]) (ci_val (ce_v v_law_6)) (by decide +kernel) (by decide) (cg_n (by decide +kernel)) cts_nil (ce_ix rfl (ce_v (by decide +kernel)) ce_int) rfl)) ca_nil))) (css_cons (cs_s w_law_14 (by decide +kernel) (ce_ix rfl (ce_tup (ca_cons rfl (ce_bin o_mod (ce_bin o_div (ce_v v_law_11) ce_int) ce_int) (ca_cons rfl (ce_bin o_mod (ce_bin o_div (ce_v v_law_11) ce_int) ce_int) (ca_cons rfl (ce_bin o_div (ce_v v_law_12) ce_int) (ca_cons rfl (ce_bin o_mul (ce_v v_law_12) (ce_tn gr b_int boot_int (by decide +kernel) (ca_cons rfl (ce_cmp o_eq rfl (ce_bin o_mod (ce_bin o_div (ce_v v_law_11) ce_int) ce_int) ce_int) ca_nil))) ca_nil))))) (ce_bin o_mod (ce_v v_law_11) ce_int))) (css_cons (cs_s w_law_15 (by decide +kernel) (ce_of_co (co_cn (e := e_drawn) gr (.tail _ (.tail _ (.tail _ (.tail _ (.tail _ (.tail _ (.tail _ (.head _)))))))) (by decide +kernel) (ca_cons rfl (ce_of_co (co_tn gr b_list boot_list (by decide +kernel) (ca_cons rfl (ce_v v_law_6) ca_nil))) (ca_cons rfl (ce_v v_law_14) (ca_cons rfl (ce_of_co (co_tn gr b_list boot_list (by decide +kernel) (ca_cons rfl (ce_v v_law_5) ca_nil))) (ca_cons rfl (ce_v v_law_4) ca_nil))))))) (css_cons (cs_if (ct_not (ct_val rfl (ce_of_co (co_cn (e := e_x_law_is_pair) gr (.tail _ (.tail _ (.tail _ (.tail _ (.tail _ (.tail _ (.tail _ (.tail _ (.head _))))))))) (by decide +kernel) (ca_cons rfl (ce_v v_law_15) (ca_cons rfl (ce_v v_law_15) ca_nil)))))) (css_one (cs_ret ce_bl)) css_nil) (css_cons (cs_if (ct_not (ct_val rfl (ce_of_co (co_cn (e := e_x_law_step_right) gr (.tail _ (.tail _ (.tail _ (.tail _ (.tail _ (.tail _ (.tail _ (.tail _ (.tail _ (.head _)))))))))) (by decide +kernel) (ca_cons rfl (ce_v v_law_6) (ca_cons rfl (ce_ix rfl (ce_v v_law_15) ce_int) (ca_cons rfl (ce_ix rfl (ce_v v_law_15) ce_int) (ca_cons rfl (ce_v v_law_14) (ca_cons rfl (ce_v v_law_5) (ca_cons rfl (ce_v v_law_4) ca_nil)))))))))) (css_one (cs_ret ce_bl)) css_nil) (css_cons (cs_s w_law_7 (by decide +kernel) (ce_of_co (co_cn (e := e_x_law_row) gr (.tail _ (.tail _ (.head _))) (by decide +kernel) (ca_cons rfl (ce_v v_law_7) (ca_cons rfl (ce_ix rfl (ce_v v_law_15) ce_int) ca_nil))))) (css_cons (cs_s w_law_6 (by decide +kernel) (ce_ix rfl (ce_v v_law_15) ce_int)) (css_one (cs_s w_law_8 (by decide +kernel) (ce_bin o_add (ce_v v_law_8) (ce_v v_law_14))))))))))))) (css_cons (cs_s w_law_16 (by decide +kernel) (ce_of_co (co_cn (e := e_drawn) gr (.tail _ (.tail _ (.tail _ (.tail _ (.tail _ (.tail _ (.tail _ (.head _)))))))) (by decide +kernel) (ca_cons rfl (ce_v v_law_2) (ca_cons rfl (ce_v v_law_8) (ca_cons rfl (ce_v v_law_5) (ca_cons rfl (ce_v v_law_4) ca_nil))))))) (css_one (cs_retO (co_cn (e := e_x_law_is_pair) gr (.tail _ (.tail _ (.tail _ (.tail _ (.tail _ (.tail _ (.tail _ (.tail _ (.head _))))))))) (by decide +kernel) (ca_cons rfl (ce_v v_law_16) (ca_cons rfl (ce_tup (ca_cons rfl (ce_v v_law_7) (ca_cons rfl (ce_v v_law_6) ca_nil))) ca_nil)))))))))))))))
theorem sc_law : FnScope g_law.N ["_law_script"] (defScope s_law) := ⟨rfl, rfl, rfl, by decide +kernel, rfl, by decide +kernel, by decide +kernel⟩

end K15

end
section
set_option Elab.async false
set_option linter.all false
set_option maxRecDepth 100000
set_option maxHeartbeats 4000000
namespace K15
open Eng PySem L2
def mixF : List Int := [48271, 69621, 16807, 40692, 30269, 62089, 45991]
def mixN (c k : Int) : Int := (c % 2147483647 + 97 * k * k + 11) * nth mixF (k % 7) % 2147483629
def mixZ (c k : Int) : Int := mixN c k * mixN c k % 1999999973
theorem mix_lo (c k : Int) : 0 ≤ mixZ c k ∧ mixZ c k < 1999999973 := by unfold mixZ; omega
theorem mix_ok (c k : Int) (h : -1000000 ≤ k ∧ k ≤ 1000000) : e_x_law_mix.fn [.int c, .int k] = .ok (.v (.int (mixZ c k))) := by
  have e1 : atI ([.int 48271, .int 69621, .int 16807, .int 40692, .int 30269, .int 62089, .int 45991] : List D) (k % 7) = some (.int (nth mixF (k % 7))) := fIx_ints (ns := mixF) rfl (by omega) (by simp only [mixF, List.length_cons, List.length_nil]; omega)
  have h2 : 0 ≤ nth mixF (k % 7) ∧ nth mixF (k % 7) ≤ 69621 := nth_all (P := fun n => 0 ≤ n ∧ n ≤ 69621) (by decide) (by decide)
  have h3 : 0 ≤ mixN c k ∧ mixN c k < 2147483629 := by unfold mixN; omega
  have h4 : mixN c k = (c % 2147483647 + 97 * k * k + 11) * nth mixF (k % 7) % 2147483629 := rfl
  unfold mixZ
  simp only [e_x_law_mix, runD, m_x_law_mix, sl0]
  simp [e1, fMul_ii (Or.inr (show -18446744073709551616 < k ∧ k < 18446744073709551616 by omega)), fMul_ii (Or.inr (show -18446744073709551616 < nth mixF (k % 7) ∧ nth mixF (k % 7) < 18446744073709551616 by omega)), fMul_ii (Or.inr (show -18446744073709551616 < mixN c k ∧ mixN c k < 18446744073709551616 by omega)), ← h4]

def atZ (ns : List Int) (k : Int) : Int := if k < ns.length then nth ns k else 0
theorem at_ok (ns : List Int) (k : Int) (h : 0 ≤ k) : e_x_law_at.fn [.lst (ns.map .int), .int k] = .ok (.v (.int (atZ ns k))) := by
  simp only [e_x_law_at, runD, m_x_law_at, sl0]
  by_cases c : k < ns.length
  · simp [c, atZ, atI_int h c]
  · simp [c, atZ]

theorem app_list (x y : Str) : (x ++ y).cps.toList = x.cps.toList ++ y.cps.toList := by
  show (x.cps ++ y.cps).toList = _
  exact Array.toList_append
/-! four texts of which two at most are names -/
def Few (zs : List Str) : Prop := ¬ (("zz" : Str) ∈ zs ∧ ("xx" : Str) ∈ zs) ∧ ¬ (("y" : Str) ∈ zs ∧ ("q" : Str) ∈ zs)
theorem few_head {zs : List Str} {c : Nat} (h : ∀ z ∈ zs, z.cps.toList.head? = some c) : Few zs := by
  refine ⟨fun ⟨a, b⟩ => ?_, fun ⟨a, b⟩ => ?_⟩
  · have e1 : ("zz" : Str).cps.toList.head? = some 122 := by decide +kernel
    have e2 : ("xx" : Str).cps.toList.head? = some 120 := by decide +kernel
    have := (h _ a).symm.trans e1
    have := (h _ b).symm.trans e2
    simp_all
  · have e1 : ("y" : Str).cps.toList.head? = some 121 := by decide +kernel
    have e2 : ("q" : Str).cps.toList.head? = some 113 := by decide +kernel
    have := (h _ a).symm.trans e1
    have := (h _ b).symm.trans e2
    simp_all
theorem head_app {i : Int} {x : Str} : (sgn "abcdefghijklmnopqrstuvwxyz" i ++ x).cps.toList.head? = some ((sgn "abcdefghijklmnopqrstuvwxyz" i).cps.toList.getD 0 0) := by
  rw [app_list]; rfl
theorem head_app2 {i : Int} {x y z : Str} : ((sgn "abcdefghijklmnopqrstuvwxyz" i ++ x).cps.toList ++ y.cps.toList ++ z.cps.toList).head? = some ((sgn "abcdefghijklmnopqrstuvwxyz" i).cps.toList.getD 0 0) := by
  rw [app_list]; rfl
theorem sgn_abc {i : Int} (h : 0 ≤ i ∧ i < 26) : (sgn "abcdefghijklmnopqrstuvwxyz" i).cps.toList = [97 + i.toNat] := by
  have : ∀ k < 26, ("abcdefghijklmnopqrstuvwxyz" : Str).cps.toList.getD k 0 = 97 + k := by decide +kernel
  show [("abcdefghijklmnopqrstuvwxyz" : Str).cps.toList.getD i.toNat 0] = _
  rw [this i.toNat (by omega)]
theorem few_row {s : Int} {t : Str} {many : Nat} (hs : 0 ≤ s ∧ s < 26) (hm : many ≤ 6) : Few ((List.range many).map fun (k : Nat) => sgn "abcdefghijklmnopqrstuvwxyz" ((s + (k : Int)) % 26) ++ t) := by
  have row : ∀ (z : Str), z ∈ (List.range many).map (fun (k : Nat) => sgn "abcdefghijklmnopqrstuvwxyz" ((s + (k : Int)) % 26) ++ t) → ∃ k : Nat, k < 6 ∧ z.cps.toList = [97 + ((s + (k : Int)) % 26).toNat] ++ t.cps.toList := fun z m => by
    obtain ⟨k, mk, rfl⟩ := List.mem_map.mp m
    have := List.mem_range.mp mk
    exact ⟨k, by omega, by rw [app_list, sgn_abc (by omega)]⟩
  refine ⟨fun ⟨a, b⟩ => ?_, fun ⟨a, b⟩ => ?_⟩
  · obtain ⟨k, _, e⟩ := row _ a
    obtain ⟨k', _, e'⟩ := row _ b
    have e1 : ("zz" : Str).cps.toList = [122, 122] := by decide +kernel
    have e2 : ("xx" : Str).cps.toList = [120, 120] := by decide +kernel
    rw [e1] at e
    rw [e2] at e'
    simp at e e'
    have := e.2.trans e'.2.symm
    simp at this
  · obtain ⟨k, hk, e⟩ := row _ a
    obtain ⟨k', hk', e'⟩ := row _ b
    have e1 : ("y" : Str).cps.toList = [121] := by decide +kernel
    have e2 : ("q" : Str).cps.toList = [113] := by decide +kernel
    rw [e1] at e
    rw [e2] at e'
    simp at e e'
    omega
theorem txt_lc (c x y : D) (n s : Int) (hx : True) : ∃ zs : List Str, zs.length = 7 ∧ (∀ z ∈ zs, z.length = 1) ∧
    lcGo (put 6) mYes l_x_law_names_0 [some (.v c), some (.v x), some (.v (.str "abcdefghijklmnopqrstuvwxyz")), some (.v (.int n)), some (.v (.int s)), none, none, none, none, none, none, none] (rng 0 7) = .ok (zs.map .str) := by
  refine ⟨(List.range 7).map fun (k : Nat) => sgn "abcdefghijklmnopqrstuvwxyz" ((n / ((k : Int) + 1) + (k : Int) * k) % 26), by simp, fun z mz => ?_, ?_⟩
  · obtain ⟨k, _, rfl⟩ := List.mem_map.mp mz; rfl
  · unfold rng
    rw [List.map_map]
    refine lcGo_map fun k mk => ⟨[some (.v c), some (.v x), some (.v (.str "abcdefghijklmnopqrstuvwxyz")), some (.v (.int n)), some (.v (.int s)), none, some (.v (.int (0 + (k : Int)))), none, none, none, none, none], rfl, ?_⟩
    have hk := List.mem_range.mp mk
    simp [l_x_law_names_0, fMul_ii (Or.inl (show -18446744073709551616 < (k : Int) ∧ (k : Int) < 18446744073709551616 by omega)), fDiv_ii (show 0 < (k : Int) + 1 ∧ (k : Int) + 1 < 18446744073709551616 by omega)]
    rw [fIx_abc (Int.emod_nonneg _ (by decide)) (Int.emod_lt_of_pos _ (by decide))]
    rfl
theorem names14_ok (c : Int) (many : Nat) (hm0 : many ≤ 6) : ∃ zs : List Str, zs.length = many ∧ (∀ z ∈ zs, z.length ≤ 30) ∧ Few zs ∧ e_x_law_names.fn [.int c, .int many] = .ok (.ml ((zs.map .str).map .v)) := by
  have hm : many ≤ 10 := by omega
  have h1 := mix_ok c 0 (by omega)
  have h2 := mix_lo c 0
  generalize mixZ c 0 = n at h1 h2
  obtain ⟨ts, t1, t2, e1⟩ := txt_lc (.int c) (.int many) .non n (n / 5 % 26) trivial
  have e2 := fJoin_0 (zs := ts) (by rw [sum_ones t2]; omega)
  have l1 : (Txt.join "" ts).length = 7 := by rw [join_len0, sum_ones t2]; exact t1
  generalize Txt.join "" ts = t at e2 l1
  have r1 : rng1 (.int (many : Int)) = some (rng 0 many) := by rw [rng1_ok ⟨by omega, by omega⟩]; rfl
  have r0 : rng1 (.int 7) = some (rng 0 7) := by rw [rng1_ok ⟨by omega, by omega⟩]; rfl
  have lt : t.length ≤ 16777216 := by omega
  have s0 : fIx (.str "abcdefghijklmnopqrstuvwxyz") (.int (n / 5 % 26)) = some (.str (sgn "abcdefghijklmnopqrstuvwxyz" (n / 5 % 26))) := fIx_abc (Int.emod_nonneg _ (by decide)) (Int.emod_lt_of_pos _ (by decide))
  simp only [e_x_law_names, runD, m_x_law_names, sl0]
  by_cases c0 : n % 3 = 0
  · have e3 : lcGo (put 7) mYes l_x_law_names_1 [some (.v (.int c)), some (.v (.int many)), some (.v (.str "abcdefghijklmnopqrstuvwxyz")), some (.v (.int n)), some (.v (.int (n / 5 % 26))), some (.v (.str t)), none, none, none, none, none, none] (rng 0 many) = .ok ((List.range many).map fun (k : Nat) => D.str (sgn "abcdefghijklmnopqrstuvwxyz" (n / 5 % 26) ++ cutS t none (some (k : Int)))) := by
      unfold rng
      refine lcGo_map fun k mk => ⟨[some (.v (.int c)), some (.v (.int many)), some (.v (.str "abcdefghijklmnopqrstuvwxyz")), some (.v (.int n)), some (.v (.int (n / 5 % 26))), some (.v (.str t)), none, some (.v (.int (0 + (k : Int)))), none, none, none, none], rfl, ?_⟩
      have g1 := @len_cut t none (some (k : Int))
      simp [l_x_law_names_1, lt, s0, show 1 + (cutS t none (some (k : Int))).length ≤ 16777216 by omega]
    refine ⟨(List.range many).map fun (k : Nat) => sgn "abcdefghijklmnopqrstuvwxyz" (n / 5 % 26) ++ cutS t none (some (k : Int)), by simp, fun z mz => ?_, few_head (c := ((sgn "abcdefghijklmnopqrstuvwxyz" (n / 5 % 26)).cps.toList.getD 0 0)) fun z mz => by obtain ⟨k, _, rfl⟩ := List.mem_map.mp mz; exact head_app, ?_⟩
    · obtain ⟨k, _, rfl⟩ := List.mem_map.mp mz
      have g1 := @len_cut t none (some (k : Int))
      have g2 : (sgn "abcdefghijklmnopqrstuvwxyz" (n / 5 % 26)).length = 1 := rfl
      rw [len_app]; omega
    · simp [h1, r0, e1, e2, c0, r1, e3, show many ≤ 16777216 by omega]
  · by_cases c1 : n % 3 = 1
    · have e3 : lcGo (put 7) mYes l_x_law_names_2 [some (.v (.int c)), some (.v (.int many)), some (.v (.str "abcdefghijklmnopqrstuvwxyz")), some (.v (.int n)), some (.v (.int (n / 5 % 26))), some (.v (.str t)), none, none, some (.v (.int (n / 3 % 8))), none, none, none] (rng 0 many) = .ok ((List.range many).map fun (k : Nat) => D.str (sgn "abcdefghijklmnopqrstuvwxyz" ((n / 5 % 26 + (k : Int)) % 26) ++ cutS t none (some (n / 3 % 8)))) := by
        unfold rng
        refine lcGo_map fun k mk => ⟨[some (.v (.int c)), some (.v (.int many)), some (.v (.str "abcdefghijklmnopqrstuvwxyz")), some (.v (.int n)), some (.v (.int (n / 5 % 26))), some (.v (.str t)), none, some (.v (.int (0 + (k : Int)))), some (.v (.int (n / 3 % 8))), none, none, none], rfl, ?_⟩
        have g1 := @len_cut t none (some (n / 3 % 8))
        simp only [l_x_law_names_2]
        simp [lt]
        rw [fIx_abc (Int.emod_nonneg _ (by decide)) (Int.emod_lt_of_pos _ (by decide))]
        simp [show 1 + (cutS t none (some (n / 3 % 8))).length ≤ 16777216 by omega]
      refine ⟨(List.range many).map fun (k : Nat) => sgn "abcdefghijklmnopqrstuvwxyz" ((n / 5 % 26 + (k : Int)) % 26) ++ cutS t none (some (n / 3 % 8)), by simp, fun z mz => ?_, few_row (s := n / 5 % 26) (t := cutS t none (some (n / 3 % 8))) (by omega) hm0, ?_⟩
      · obtain ⟨k, _, rfl⟩ := List.mem_map.mp mz
        have g1 := @len_cut t none (some (n / 3 % 8))
        have g2 : (sgn "abcdefghijklmnopqrstuvwxyz" ((n / 5 % 26 + (k : Int)) % 26)).length = 1 := rfl
        rw [len_app]; omega
      · simp [h1, r0, e1, e2, c0, c1, r1, e3, show many ≤ 16777216 by omega]
    · obtain ⟨a, ha⟩ : ∃ a, n / 21 % (n / 3 % 7 + 1) = a := ⟨_, rfl⟩
      have e3 : lcGo (put 7) mYes l_x_law_names_3 [some (.v (.int c)), some (.v (.int many)), some (.v (.str "abcdefghijklmnopqrstuvwxyz")), some (.v (.int n)), some (.v (.int (n / 5 % 26))), some (.v (.str t)), none, none, some (.v (.int (n / 3 % 7))), some (.v (.int a)), none, none] (rng 0 many) = .ok ((List.range many).map fun (k : Nat) => D.str (sgn "abcdefghijklmnopqrstuvwxyz" ((n / 7 + (k : Int)) % 26))) := by
        unfold rng
        refine lcGo_map fun k mk => ⟨[some (.v (.int c)), some (.v (.int many)), some (.v (.str "abcdefghijklmnopqrstuvwxyz")), some (.v (.int n)), some (.v (.int (n / 5 % 26))), some (.v (.str t)), none, some (.v (.int (0 + (k : Int)))), some (.v (.int (n / 3 % 7))), some (.v (.int a)), none, none], rfl, ?_⟩
        simp only [l_x_law_names_3]
        simp
        rw [fIx_abc (Int.emod_nonneg _ (by decide)) (Int.emod_lt_of_pos _ (by decide))]
        rfl
      have g1 := @len_cut t none (some a)
      have g2 := @len_cut t (some a) (some (n / 3 % 7))
      have g3 : (sgn "abcdefghijklmnopqrstuvwxyz" (n / 5 % 26)).length = 1 := rfl
      have e4 : lcGo (put 11) mYes l_x_law_names_4 [some (.v (.int c)), some (.v (.int many)), some (.v (.str "abcdefghijklmnopqrstuvwxyz")), some (.v (.int n)), some (.v (.int (n / 5 % 26))), some (.v (.str t)), none, none, some (.v (.int (n / 3 % 7))), some (.v (.int a)), some (.v (.lst ((List.range many).map fun (k : Nat) => D.str (sgn "abcdefghijklmnopqrstuvwxyz" ((n / 7 + (k : Int)) % 26))))), none] ((List.range many).map fun (k : Nat) => D.str (sgn "abcdefghijklmnopqrstuvwxyz" ((n / 7 + (k : Int)) % 26))) = .ok ((List.range many).map fun (k : Nat) => D.str (sgn "abcdefghijklmnopqrstuvwxyz" (n / 5 % 26) ++ cutS t none (some a) ++ sgn "abcdefghijklmnopqrstuvwxyz" ((n / 7 + (k : Int)) % 26) ++ cutS t (some a) (some (n / 3 % 7)))) := by
        refine lcGo_map fun k mk => ⟨[some (.v (.int c)), some (.v (.int many)), some (.v (.str "abcdefghijklmnopqrstuvwxyz")), some (.v (.int n)), some (.v (.int (n / 5 % 26))), some (.v (.str t)), none, none, some (.v (.int (n / 3 % 7))), some (.v (.int a)), some (.v (.lst ((List.range many).map fun (k : Nat) => D.str (sgn "abcdefghijklmnopqrstuvwxyz" ((n / 7 + (k : Int)) % 26))))), some (.v (.str (sgn "abcdefghijklmnopqrstuvwxyz" ((n / 7 + (k : Int)) % 26))))], rfl, ?_⟩
        simp [l_x_law_names_4, lt, s0, len_app, show 1 + (cutS t none (some a)).length ≤ 16777216 by omega, show 1 + (cutS t none (some a)).length + 1 ≤ 16777216 by omega, show 1 + (cutS t none (some a)).length + 1 + (cutS t (some a) (some (n / 3 % 7))).length ≤ 16777216 by omega]
      refine ⟨(List.range many).map fun (k : Nat) => sgn "abcdefghijklmnopqrstuvwxyz" (n / 5 % 26) ++ cutS t none (some a) ++ sgn "abcdefghijklmnopqrstuvwxyz" ((n / 7 + (k : Int)) % 26) ++ cutS t (some a) (some (n / 3 % 7)), by simp, fun z mz => ?_, few_head (c := ((sgn "abcdefghijklmnopqrstuvwxyz" (n / 5 % 26)).cps.toList.getD 0 0)) fun z mz => by obtain ⟨k, _, rfl⟩ := List.mem_map.mp mz; rw [app_list, app_list]; exact head_app2, ?_⟩
      · obtain ⟨k, _, rfl⟩ := List.mem_map.mp mz
        have g4 : (sgn "abcdefghijklmnopqrstuvwxyz" ((n / 7 + (k : Int)) % 26)).length = 1 := rfl
        rw [len_app, len_app, len_app]; omega
      · simp [h1, r0, e1, e2, c0, c1, r1, ha, e3, e4, show many ≤ 16777216 by omega, fMod_ii (show 0 < n / 3 % 7 + 1 by omega)]
structure Pl where
  b : Int
  s : Str
  m : Str
  p : Int
def Pl.d (x : Pl) : D := .tup [.int x.b, .str x.s, .str x.m, .int x.p]
structure Pl.Ok (x : Pl) : Prop where
  b : 0 ≤ x.b
  p : 1 ≤ x.p
theorem pile_ok (ns : List Int) (hl : ns.length ≤ 63) (zs : List Str) (hz : zs.length = 6) (k : Int) (hk : 0 ≤ k ∧ k ≤ 1000) : ∃ x : Pl, x.Ok ∧ e_x_law_pile.fn [.lst (ns.map .int), .lst (zs.map .str), .int k] = .ok (.v x.d) := by
  have hm : 0 < max 1 ((ns.length : Int) - 1) := by omega
  have ha := at_ok ns (1 + k % max 1 ((ns.length : Int) - 1)) (by have := Int.emod_nonneg k (show max 1 ((ns.length : Int) - 1) ≠ 0 by omega); omega)
  generalize atZ ns (1 + k % max 1 ((ns.length : Int) - 1)) = c at ha
  have h1 := mix_ok c k (by omega)
  have h2 := mix_lo c k
  generalize mixZ c k = m at h1 h2
  have h3 := mix_ok c (k + 3) (by omega)
  have h4 := mix_lo c (k + 3)
  generalize mixZ c (k + 3) = n at h3 h4
  obtain ⟨b, e1, b1⟩ := pickI (ds := [.int (m % 3), .int (m % 7), .int (m % 40), .int ((c + k) % 1000000000000)]) (i := m / 21 % 4) (ns := [m % 3, m % 7, m % 40, (c + k) % 1000000000000]) (P := fun n => 0 ≤ n) rfl (by omega) (by simp; omega) (by
    intro n mn
    simp at mn
    rcases mn with rfl | rfl | rfl | rfl <;> omega)
  obtain ⟨p, e2, p1⟩ := pickI (ds := [.int (1 + n % 3), .int (1 + n % 9), .int 1, .int (1 + (c + n) % 100000000)]) (i := n / 9 % 4) (ns := [1 + n % 3, 1 + n % 9, 1, 1 + (c + n) % 100000000]) (P := fun n => 1 ≤ n) rfl (by omega) (by simp; omega) (by
    intro n mn
    simp at mn
    rcases mn with rfl | rfl | rfl | rfl <;> omega)
  have nm : ∀ i : Int, 0 ≤ i → i < 6 → ∃ z, atI (zs.map D.str) i = some (.str z) := fun i h g => by
    obtain ⟨v, e, z, rfl, _⟩ := pick (ds := zs.map D.str) (i := i) (P := fun d => ∃ z, d = D.str z ∧ True) h (by rw [List.length_map]; omega) (by
      intro n mn
      obtain ⟨t, _, rfl⟩ := List.mem_map.mp mn
      exact ⟨t, rfl, trivial⟩)
    exact ⟨z, e⟩
  obtain ⟨z1, f1⟩ := nm (m / 84 % 6) (by omega) (by omega)
  obtain ⟨z2, f2⟩ := nm 0 (by omega) (by omega)
  obtain ⟨z3, f3⟩ := nm (n / 36 % 6) (by omega) (by omega)
  obtain ⟨v, e3, w, rfl, _⟩ := pick (ds := [.str "", .str "", .str z1, .str z2]) (i := m / 504 % 4) (P := fun d => ∃ z, d = D.str z ∧ True) (by omega) (by simp; omega) (by
    intro n mn
    simp at mn
    rcases mn with rfl | rfl | rfl <;> exact ⟨_, rfl, trivial⟩)
  refine ⟨⟨b, z3, w, p⟩, ⟨b1, p1⟩, ?_⟩
  simp only [e_x_law_pile, runD, m_x_law_pile, sl0]
  simp [fMod_ii hm, ha, h1, h3, e1, f1, f2, f3, e3, e2, Pl.d]
theorem piles_ok (ns : List Int) (hl : ns.length ≤ 63) (zs : List Str) (hz : zs.length = 6) (many : Nat) (hm : many ≤ 100) : ∃ ps : List Pl, ps.length = many ∧ (∀ x ∈ ps, x.Ok) ∧ e_x_law_piles.fn [.lst (ns.map .int), .lst (zs.map .str), .int 0, .int many] = .ok (.ml ((ps.map Pl.d).map .v)) := by
  have r1 : rng1 (.int (many : Int)) = some (rng 0 many) := by rw [rng1_ok ⟨by omega, by omega⟩]; rfl
  have e : ∃ ys, lcGo (put 4) mYes l_x_law_piles_0 [some (.v (.lst (ns.map .int))), some (.v (.lst (zs.map .str))), some (.v (.int 0)), some (.v (.int many)), none] (rng 0 many) = .ok ys ∧ ys.length = (rng 0 many).length ∧ ∀ y ∈ ys, ∃ x : Pl, y = x.d ∧ x.Ok := by
    refine lcGo_all (P := fun y => ∃ x : Pl, y = x.d ∧ x.Ok) fun x mx => ?_
    unfold rng at mx
    obtain ⟨i, mi, rfl⟩ := List.mem_map.mp mx
    have := List.mem_range.mp mi
    obtain ⟨x, ok, e⟩ := pile_ok ns hl zs hz (0 + (0 + (i : Int))) (by omega)
    refine ⟨[some (.v (.lst (ns.map .int))), some (.v (.lst (zs.map .str))), some (.v (.int 0)), some (.v (.int many)), some (.v (.int (0 + (i : Int))))], x.d, rfl, ?_, x, rfl, ok⟩
    simp at e
    simp [l_x_law_piles_0, e]
  obtain ⟨ys, e, l, h⟩ := e
  have : ∃ ps : List Pl, ys = ps.map Pl.d ∧ ∀ x ∈ ps, x.Ok := by
    clear e l
    induction ys with
    | nil => exact ⟨[], rfl, fun _ m => nomatch m⟩
    | cons y ys ih =>
      obtain ⟨x, rfl, ok⟩ := h y List.mem_cons_self
      obtain ⟨ps, rfl, q⟩ := ih fun z m => h z (List.mem_cons_of_mem _ m)
      exact ⟨x :: ps, rfl, fun z m => (List.mem_cons.mp m).elim (fun e => e ▸ ok) (q z)⟩
  obtain ⟨ps, rfl, q⟩ := this
  refine ⟨ps, by simpa using l, q, ?_⟩
  simp only [e_x_law_piles, runD, m_x_law_piles, sl0]
  simp [r1, e, show many ≤ 16777216 by omega]
theorem many_ok (c : Int) : ∃ n : Nat, n ≤ 60 ∧ e_x_law_many.fn [.int c] = .ok (.v (.int n)) := by
  have h1 := mix_ok c 2 (by omega)
  have h2 := mix_lo c 2
  generalize mixZ c 2 = m at h1 h2
  obtain ⟨b, e1, b1⟩ := pickI (ds := [.int (m / 4 % 6), .int (m / 4 % 20), .int (m / 4 % 61), .int 60]) (i := m % 4) (ns := [m / 4 % 6, m / 4 % 20, m / 4 % 61, 60]) (P := fun n => 0 ≤ n ∧ n ≤ 60) rfl (by omega) (by simp; omega) (by
    intro n mn
    simp at mn
    rcases mn with rfl | rfl | rfl | rfl <;> omega)
  refine ⟨b.toNat, by omega, ?_⟩
  have : ((b.toNat : Nat) : Int) = b := by omega
  rw [this]
  simp only [e_x_law_many, runD, m_x_law_many, sl0]
  simp [h1, e1]

def Pl.key (x : Pl) : List D := [.int x.b, .str x.s, .str x.m]
theorem Pl.key_pn (x : Pl) : Pn 1 (.tup x.key) := .tup fun y my => by
  unfold Pl.key at my
  simp at my
  rcases my with rfl | rfl | rfl <;> constructor
theorem Pl.cut3 (x : Pl) : fSl x.d none (some 3) = some (.tup x.key) := by
  unfold Pl.d
  simp
  rfl
theorem key_eq {x y : Pl} : x.key = y.key ↔ x.b = y.b ∧ x.s = y.s ∧ x.m = y.m := by
  unfold Pl.key
  simp
/-- is the one's key before the other's -/
def kLt (x y : Pl) : Bool := (ltD (.tup x.key) (.tup y.key)).getD false
theorem kLt_ok (x y : Pl) : ltD (.tup x.key) (.tup y.key) = some (kLt x y) := by
  have e : ∀ x : Pl, (D.tup x.key).py = some (.tuple [.int x.b, .str x.s, .str x.m]) := fun _ => rfl
  have h : ltD (.tup x.key) (.tup y.key) = some (W.dataLt (.tuple [.int x.b, .str x.s, .str x.m]) (.tuple [.int y.b, .str y.s, .str y.m])) := by
    have h0 : ltD (.tup x.key) (.tup y.key) = (match (D.tup x.key).py, (D.tup y.key).py with
      | some p, some q => if W.alike p q = true ∧ p.depth ≤ 64 ∧ q.depth ≤ 64 ∧ pyN p = false ∧ pyN q = false then some (W.dataLt p q) else none
      | _, _ => none) := rfl
    rw [h0, e, e]
    dsimp only
    rw [if_pos ⟨rfl, by simp [PyData.depth, PyData.depthAll], by simp [PyData.depth, PyData.depthAll], rfl, rfl⟩]
  unfold kLt
  rw [h]
  rfl
open Classical in
/-- a pile put into a row -/
noncomputable def putF (row : List Pl) (x : Pl) : List Pl :=
  let made := row.filter fun y => !decide (y.key = x.key)
  let n := (made.filter fun y => kLt y x).length
  made.take n ++ [⟨x.b, x.s, x.m, x.p + ((row.filter fun y => decide (y.key = x.key)).map (·.p)).sum⟩] ++ made.drop n
open Classical in
theorem put_go (x : Pl) {a0 : Option O} {r : Sl} : ∀ {row made : List Pl} {p : Int} {y : Option D}, made.length + row.length ≤ 1000 → ∃ y' : Option D,
    forGo (put 4) b_x_law_put_0 (a0 :: some (.v x.d) :: some (.ml ((made.map Pl.d).map .v)) :: some (.v (.int p)) :: y.map .v :: r) (row.map Pl.d) =
      .next (a0 :: some (.v x.d) :: some (.ml (((made ++ row.filter fun y => !decide (y.key = x.key)).map Pl.d).map .v)) :: some (.v (.int (p + ((row.filter fun y => decide (y.key = x.key)).map (·.p)).sum))) :: Option.map .v y' :: r)
  | [], made, p, y, _ => ⟨y, by simp⟩
  | z :: row, made, p, y, hl => by
    have e1 := (z.key_pn).eq (x.key_pn) (by omega)
    have i3 : fIx z.d (.int 3) = some (.int z.p) := at_3
    by_cases c : z.key = x.key
    · obtain ⟨y', e⟩ := put_go x (a0 := a0) (r := r) (row := row) (made := made) (p := p + z.p) (y := some z.d) (by simp at hl; omega)
      refine ⟨y', ?_⟩
      rw [List.map_cons, forGo_step (L1 := a0 :: some (.v x.d) :: some (.ml ((made.map Pl.d).map .v)) :: some (.v (.int p)) :: some (.v z.d) :: r) (L2 := a0 :: some (.v x.d) :: some (.ml ((made.map Pl.d).map .v)) :: some (.v (.int (p + z.p))) :: some (.v z.d) :: r) (by simp) (by simp [b_x_law_put_0, Pl.cut3, (x.key_pn).eq_self (by omega), c, i3])]
      rw [show (some (O.v z.d) : Option O) = Option.map O.v (some z.d) from rfl, e]
      simp [List.filter_cons, c, Int.add_assoc]
    · obtain ⟨y', e⟩ := put_go x (a0 := a0) (r := r) (row := row) (made := made ++ [z]) (p := p) (y := some z.d) (by simp at hl ⊢; omega)
      refine ⟨y', ?_⟩
      rw [List.map_cons, forGo_step (L1 := a0 :: some (.v x.d) :: some (.ml ((made.map Pl.d).map .v)) :: some (.v (.int p)) :: some (.v z.d) :: r) (L2 := a0 :: some (.v x.d) :: some (.ml (((made ++ [z]).map Pl.d).map .v)) :: some (.v (.int p)) :: some (.v z.d) :: r) (by simp) (by
        have : made.length < 16777216 := by simp at hl; omega
        simp [b_x_law_put_0, Pl.cut3, e1, c, this])]
      rw [show (some (O.v z.d) : Option O) = Option.map O.v (some z.d) from rfl, e]
      simp [List.filter_cons, c]
theorem cut_pre_l {α : Type} {xs : List α} {n : Nat} (h : n ≤ xs.length) : cut xs none (some (n : Int)) = xs.take n := by
  unfold cut
  rw [HT.sIx_none, HT.sIx_nat, Nat.min_eq_left h]
  simp
theorem cut_suf_l {α : Type} {xs : List α} {n : Nat} (h : n ≤ xs.length) : cut xs (some (n : Int)) none = xs.drop n := by
  unfold cut
  rw [HT.sIx_none, HT.sIx_nat, Nat.min_eq_left h]
  exact List.take_of_length_le (by simp)
open Classical in
theorem put_ok (row : List Pl) (x : Pl) (hl : row.length ≤ 900) : e_x_law_put.fn [.lst (row.map Pl.d), x.d] = .ok (.v (.lst ((putF row x).map Pl.d))) := by
  obtain ⟨y', e⟩ := put_go x (a0 := some (.v (.lst (row.map Pl.d)))) (r := [none]) (row := row) (made := []) (p := x.p) (y := none) (by simp; omega)
  have i3 : fIx x.d (.int 3) = some (.int x.p) := at_3
  have hm : (row.filter fun y => !decide (y.key = x.key)).length ≤ row.length := List.length_filter_le _ _
  unfold putF
  dsimp only
  rw [List.nil_append] at e
  generalize (row.filter fun y => !decide (y.key = x.key)) = made at e hm
  generalize x.p + ((row.filter fun y => decide (y.key = x.key)).map (·.p)).sum = p at e
  have hn : (made.filter fun y => kLt y x).length ≤ made.length := List.length_filter_le _ _
  have e4 : lcGo (put 4) (mB (m2 fLt (mSl (mVar 4) mNoP (mP (mC (.int 3)))) (mSl (mVar 1) mNoP (mP (mC (.int 3)))))) l_x_law_put_0 [some (.v (.lst (row.map Pl.d))), some (.v x.d), some (.v (.lst (made.map Pl.d))), some (.v (.int p)), none, none] (made.map Pl.d) = .ok ((made.filter fun y => kLt y x).map Pl.d) :=
    lcGo_filter fun y _ => ⟨[some (.v (.lst (row.map Pl.d))), some (.v x.d), some (.v (.lst (made.map Pl.d))), some (.v (.int p)), some (.v y.d), none], rfl, by
      have := kLt_ok y x
      simp [Pl.cut3, fLt, this], fun _ => by simp [l_x_law_put_0]⟩
  have c1 := cut_pre_l (xs := made.map Pl.d) (n := (made.filter fun y => kLt y x).length) (by simpa using hn)
  have c2 := cut_suf_l (xs := made.map Pl.d) (n := (made.filter fun y => kLt y x).length) (by simpa using hn)
  have k3 : x.key.length = 3 := rfl
  have kd : D.tup (x.key ++ [.int p]) = Pl.d ⟨x.b, x.s, x.m, p⟩ := rfl
  have b1 : ((made.map Pl.d).take (made.filter fun y => kLt y x).length).length + 1 ≤ 16777216 := by simp; omega
  have b2 : ((made.map Pl.d).take (made.filter fun y => kLt y x).length).length + 1 + ((made.map Pl.d).drop (made.filter fun y => kLt y x).length).length ≤ 16777216 := by simp; omega
  simp only [e_x_law_put, runD, m_x_law_put, sl0]
  simp at e
  simp [i3, e, e4, Pl.cut3, show made.length ≤ 16777216 by omega, k3, kd, c1, c2]
  simp at b1 b2
  simp [b1, b2]
/-- a row, a list or a tuple -/
def RwD (t : Bool) (row : List Pl) : D := match t with | true => .tup (row.map Pl.d) | false => .lst (row.map Pl.d)
open Classical in
theorem put_len (row : List Pl) (x : Pl) : (putF row x).length ≤ row.length + 1 := by
  unfold putF
  dsimp only
  have hm : (row.filter fun y => !decide (y.key = x.key)).length ≤ row.length := List.length_filter_le _ _
  generalize (row.filter fun y => !decide (y.key = x.key)) = made at hm
  simp
  omega
theorem row_go {a1 : Option O} : ∀ {ps row : List Pl} {y : Option D}, row.length + ps.length ≤ 900 → ∃ y' : Option D,
    forGo (put 2) b_x_law_row_0 [some (.v (.lst (row.map Pl.d))), a1, y.map .v] (ps.map Pl.d) = .next [some (.v (.lst ((ps.foldl putF row).map Pl.d))), a1, Option.map .v y']
  | [], row, y, _ => ⟨y, rfl⟩
  | x :: ps, row, y, hl => by
    have h1 := put_len row x
    obtain ⟨y', e⟩ := row_go (a1 := a1) (ps := ps) (row := putF row x) (y := some x.d) (by simp at hl; omega)
    refine ⟨y', ?_⟩
    have := put_ok row x (by simp at hl; omega)
    rw [List.map_cons, forGo_step (L1 := [some (.v (.lst (row.map Pl.d))), a1, some (.v x.d)]) (L2 := [some (.v (.lst ((putF row x).map Pl.d))), a1, some (.v x.d)]) (by simp) (by simp [b_x_law_row_0, this])]
    exact e
theorem row_ok (ps : List Pl) (hl : ps.length ≤ 900) : e_x_law_row.fn [.lst [], .lst (ps.map Pl.d)] = .ok (.v (.lst ((ps.foldl putF []).map Pl.d))) := by
  obtain ⟨y', e⟩ := row_go (a1 := some (.v (.lst (ps.map Pl.d)))) (ps := ps) (row := []) (y := none) (by simpa using hl)
  simp only [e_x_law_row, runD, m_x_law_row, sl0]
  simp at e
  simp [e]
theorem fold_len : ∀ (ps row : List Pl), (ps.foldl putF row).length ≤ row.length + ps.length
  | [], row => by simp
  | x :: ps, row => by
    have h1 := put_len row x
    have := fold_len ps (putF row x)
    rw [List.foldl_cons, List.length_cons]
    omega
theorem whole_ok (i : Int) : e_x_law_whole.fn [.int i] = .ok (.v (.bl true)) := by
  simp only [e_x_law_whole, runD, m_x_law_whole, sl0]
  simp

/-! keys of piles, and their order -/
structure K3 where
  b : Int
  s : Str
  m : Str
deriving DecidableEq
def K3.d (k : K3) : List D := [.int k.b, .str k.s, .str k.m]
def K3.ks (k : K3) : List Key := [.inl k.b, .inr k.s, .inr k.m]
def K3.tok (k : K3) : List (Int ⊕ List Nat) := W.keyToks (.tuple [.int k.b, .str k.s, .str k.m])
abbrev KO : PyProof.Rows.KeyOrd := PyProof.Rows.listOrd PyProof.Rows.itemOrd
def K3.lt (x y : K3) : Bool := KO.blt x.tok y.tok
theorem str_cps {x y : Str} (h : x.cps.toList = y.cps.toList) : x = y := by
  cases x; cases y; simpa using h
theorem K3.tok_inj {x y : K3} (h : x.tok = y.tok) : x = y := by
  obtain ⟨b, s, m⟩ := x
  obtain ⟨b', s', m'⟩ := y
  simp [K3.tok, W.keyToks, W.keyToksAll] at h
  obtain ⟨rfl, h1, h2⟩ := h
  have e1 : s = s' := str_cps (by simpa using h1)
  have e2 : m = m' := str_cps (by simpa using h2)
  rw [e1, e2]
theorem K3.irr (x : K3) : x.lt x = false := KO.irrefl _
theorem K3.tr {x y z : K3} (h : x.lt y = true) (g : y.lt z = true) : x.lt z = true := KO.trans _ _ _ h g
theorem K3.tot {x y : K3} (h : x.lt y = false) (g : y.lt x = false) : x = y := K3.tok_inj (KO.total _ _ h g)
theorem K3.asym {x y : K3} (h : x.lt y = true) : y.lt x = false := by
  cases g : y.lt x with
  | false => rfl
  | true => have := K3.tr h g; rw [K3.irr] at this; cases this
theorem K3.ne {x y : K3} (h : x.lt y = true) : x ≠ y := fun e => by subst e; rw [K3.irr] at h; cases h
def K3.le (x y : K3) : Bool := !y.lt x
theorem K3.le_total : PySem.W.TotalLe K3.le := ⟨fun a b c h g => by
    unfold K3.le at *
    cases e : c.lt a with
    | false => rfl
    | true =>
      cases e2 : b.lt a with
      | true => rw [e2] at h; cases h
      | false =>
        cases e3 : c.lt b with
        | true => rw [e3] at g; cases g
        | false =>
          by_cases q : a = b
          · subst q; rw [e] at e3; cases e3
          · cases e4 : a.lt b with
            | true => rw [K3.tr e e4] at e3; cases e3
            | false => exact absurd (K3.tot e4 e2) q, fun a b => by
    unfold K3.le
    cases e : b.lt a with
    | false => exact .inl rfl
    | true => exact .inr (by rw [K3.asym e]; rfl)⟩
def Pl.k (x : Pl) : K3 := ⟨x.b, x.s, x.m⟩
def totP (xs : List Pl) (k : K3) : Int := ((xs.filter fun x => decide (x.k = k)).map (·.p)).sum
def IsRow (r : List Pl) : Prop := r.Pairwise fun x y => x.k.lt y.k = true
@[simp] theorem tot_nil {k : K3} : totP [] k = 0 := rfl
theorem tot_cons {x : Pl} {xs : List Pl} {k : K3} : totP (x :: xs) k = (if x.k = k then x.p else 0) + totP xs k := by
  unfold totP
  by_cases h : x.k = k <;> simp [List.filter_cons, h]
theorem tot_app {xs ys : List Pl} {k : K3} : totP (xs ++ ys) k = totP xs k + totP ys k := by
  unfold totP; simp
theorem tot_not {xs : List Pl} {k : K3} (h : ∀ x ∈ xs, x.k ≠ k) : totP xs k = 0 := by
  unfold totP
  rw [List.filter_eq_nil_iff.mpr (by intro x m; simpa using h x m)]; rfl
theorem perm_sum {xs ys : List Int} (h : xs.Perm ys) : xs.sum = ys.sum := by
  induction h with
  | nil => rfl
  | cons x _ ih => simp [ih]
  | swap x y l => simp; omega
  | trans _ _ a b => exact a.trans b
theorem tot_perm {xs ys : List Pl} {k : K3} (h : xs.Perm ys) : totP xs k = totP ys k := by
  unfold totP
  exact perm_sum ((h.filter _).map _)
theorem pl_ext {x y : Pl} (h : x.k = y.k) (g : x.p = y.p) : x = y := by
  obtain ⟨b, s, m, p⟩ := x
  obtain ⟨b', s', m', p'⟩ := y
  simp [Pl.k] at h
  simp at g
  obtain ⟨rfl, rfl, rfl⟩ := h
  subst g
  rfl
theorem row_uniq : ∀ {r r' : List Pl}, IsRow r → IsRow r' → (∀ k, (∃ x ∈ r, x.k = k) ↔ (∃ x ∈ r', x.k = k)) → (∀ k, totP r k = totP r' k) → r = r'
  | [], [], _, _, _, _ => rfl
  | [], y :: r', _, _, h, _ => by obtain ⟨_, m, _⟩ := (h y.k).mpr ⟨y, List.mem_cons_self, rfl⟩; cases m
  | x :: r, [], _, _, h, _ => by obtain ⟨_, m, _⟩ := (h x.k).mp ⟨x, List.mem_cons_self, rfl⟩; cases m
  | x :: r, y :: r', h1, h2, hk, ht => by
    obtain ⟨a1, b1⟩ := List.pairwise_cons.mp h1
    obtain ⟨a2, b2⟩ := List.pairwise_cons.mp h2
    have ek : x.k = y.k := by
      cases e : x.k.lt y.k with
      | true =>
        obtain ⟨z, m, e2⟩ := (hk x.k).mp ⟨x, List.mem_cons_self, rfl⟩
        rcases List.mem_cons.mp m with rfl | m
        · exact e2.symm
        · have := K3.tr e (a2 z m)
          rw [e2, K3.irr] at this; cases this
      | false =>
        cases e3 : y.k.lt x.k with
        | false => exact K3.tot e e3
        | true =>
          obtain ⟨z, m, e2⟩ := (hk y.k).mpr ⟨y, List.mem_cons_self, rfl⟩
          rcases List.mem_cons.mp m with rfl | m
          · exact e2
          · have := K3.tr e3 (a1 z m)
            rw [e2, K3.irr] at this; cases this
    have n1 : ∀ z ∈ r, z.k ≠ x.k := fun z m e => K3.ne (a1 z m) e.symm
    have n2 : ∀ z ∈ r', z.k ≠ x.k := fun z m e => K3.ne (a2 z m) (ek ▸ e.symm)
    have ep : x.p = y.p := by
      have := ht x.k
      rw [tot_cons, tot_cons, tot_not n1, tot_not n2, if_pos rfl, if_pos ek.symm] at this
      omega
    have exy := pl_ext ek ep
    subst exy
    rw [row_uniq b1 b2 (fun k => ⟨fun ⟨z, m, e⟩ => ?_, fun ⟨z, m, e⟩ => ?_⟩) fun k => ?_]
    · obtain ⟨w, m2, e2⟩ := (hk k).mp ⟨z, List.mem_cons_of_mem _ m, e⟩
      rcases List.mem_cons.mp m2 with rfl | m2
      · exact absurd (e.trans e2.symm) (n1 z m)
      · exact ⟨w, m2, e2⟩
    · obtain ⟨w, m2, e2⟩ := (hk k).mpr ⟨z, List.mem_cons_of_mem _ m, e⟩
      rcases List.mem_cons.mp m2 with rfl | m2
      · exact absurd (e.trans e2.symm) (n2 z m)
      · exact ⟨w, m2, e2⟩
    · have := ht k
      rw [tot_cons, tot_cons] at this
      omega
/-- the keys that come, in the order of coming -/
def addK (ks : List K3) (k : K3) : List K3 := if k ∈ ks then ks else ks ++ [k]
def keysP (xs : List Pl) : List K3 := xs.foldl (fun ks x => addK ks x.k) []
theorem addK_nodup {ks : List K3} {k : K3} (h : ks.Nodup) : (addK ks k).Nodup := by
  unfold addK
  split
  · exact h
  · rename_i n
    exact List.nodup_append.mpr ⟨h, by simp, fun a ha b hb e => n (by rw [List.mem_singleton.mp hb] at e; exact e ▸ ha)⟩
theorem mem_addK {ks : List K3} {k j : K3} : j ∈ addK ks k ↔ j ∈ ks ∨ j = k := by
  unfold addK
  split
  · rename_i h
    exact ⟨.inl, fun z => z.elim id fun e => e ▸ h⟩
  · simp
theorem keys_go : ∀ (xs : List Pl) (ks : List K3), ks.Nodup → (xs.foldl (fun ks x => addK ks x.k) ks).Nodup ∧ ∀ j, j ∈ xs.foldl (fun ks x => addK ks x.k) ks ↔ j ∈ ks ∨ ∃ x ∈ xs, x.k = j
  | [], ks, h => ⟨h, fun j => by simp⟩
  | x :: xs, ks, h => by
    obtain ⟨h1, h2⟩ := keys_go xs (addK ks x.k) (addK_nodup h)
    refine ⟨h1, fun j => ?_⟩
    rw [List.foldl_cons, h2, mem_addK]
    constructor
    · rintro ((h | rfl) | ⟨y, m, rfl⟩)
      · exact .inl h
      · exact .inr ⟨x, List.mem_cons_self, rfl⟩
      · exact .inr ⟨y, List.mem_cons_of_mem _ m, rfl⟩
    · rintro (h | ⟨y, m, rfl⟩)
      · exact .inl (.inl h)
      · rcases List.mem_cons.mp m with rfl | m
        · exact .inl (.inr rfl)
        · exact .inr ⟨y, m, rfl⟩
theorem keysP_nodup (xs : List Pl) : (keysP xs).Nodup := (keys_go xs [] List.nodup_nil).1
theorem mem_keysP {xs : List Pl} {k : K3} : k ∈ keysP xs ↔ ∃ x ∈ xs, x.k = k := by
  have := (keys_go xs [] List.nodup_nil).2 k
  simpa [keysP] using this
def pileOf (xs : List Pl) (k : K3) : Pl := ⟨k.b, k.s, k.m, totP xs k⟩
/-- what laid tells -/
def laidF (xs : List Pl) : List Pl := ((keysP xs).mergeSort K3.le).map (pileOf xs)
theorem laid_row (xs : List Pl) : IsRow (laidF xs) := by
  unfold IsRow laidF
  rw [List.pairwise_map]
  have p := List.mergeSort_perm (keysP xs) K3.le
  have nd := p.nodup_iff.mpr (keysP_nodup xs)
  have so := PySem.W.sort_pairwise K3.le_total (keysP xs)
  refine (so.and nd).imp fun {a b} h => ?_
  obtain ⟨h1, h2⟩ := h
  unfold K3.le at h1
  show a.lt b = true
  cases e : a.lt b with
  | true => rfl
  | false =>
    cases e2 : b.lt a with
    | true => rw [e2] at h1; cases h1
    | false => exact absurd (K3.tot e e2) h2
theorem mem_laid {xs : List Pl} {x : Pl} : x ∈ laidF xs ↔ (∃ y ∈ xs, y.k = x.k) ∧ x.p = totP xs x.k := by
  unfold laidF
  rw [List.mem_map]
  have p := List.mergeSort_perm (keysP xs) K3.le
  constructor
  · rintro ⟨k, m, rfl⟩
    exact ⟨mem_keysP.mp (p.mem_iff.mp m), rfl⟩
  · rintro ⟨h, e⟩
    exact ⟨x.k, p.mem_iff.mpr (mem_keysP.mpr h), pl_ext rfl e.symm⟩
theorem row_tot {r : List Pl} (h : IsRow r) {x : Pl} (m : x ∈ r) : totP r x.k = x.p := by
  induction r with
  | nil => cases m
  | cons y r ih =>
    obtain ⟨a, b⟩ := List.pairwise_cons.mp h
    rw [tot_cons]
    rcases List.mem_cons.mp m with rfl | m
    · rw [if_pos rfl, tot_not fun z mz e => K3.ne (a z mz) e.symm]; omega
    · rw [if_neg (K3.ne (a x m)), ih b m]; omega
theorem laid_tot (xs : List Pl) (k : K3) : totP (laidF xs) k = totP xs k := by
  by_cases h : ∃ y ∈ xs, y.k = k
  · have m : pileOf xs k ∈ laidF xs := mem_laid.mpr ⟨h, rfl⟩
    exact row_tot (laid_row xs) m
  · rw [tot_not (xs := xs) fun x m e => h ⟨x, m, e⟩, tot_not fun x m e => ?_]
    exact h (e ▸ (mem_laid.mp m).1)
theorem laid_uniq {r xs : List Pl} (h : IsRow r) (hk : ∀ k, (∃ x ∈ r, x.k = k) ↔ ∃ x ∈ xs, x.k = k) (ht : ∀ k, totP r k = totP xs k) : r = laidF xs := by
  refine row_uniq h (laid_row xs) (fun k => (hk k).trans ⟨fun h => ⟨pileOf xs k, mem_laid.mpr ⟨h, rfl⟩, rfl⟩, fun ⟨x, m, e⟩ => e ▸ (mem_laid.mp m).1⟩) fun k => (ht k).trans (laid_tot xs k).symm
theorem laid_perm {xs ys : List Pl} (h : xs.Perm ys) : laidF xs = laidF ys := laid_uniq (laid_row xs) (fun k => by
    constructor
    · rintro ⟨x, m, e⟩
      obtain ⟨⟨y, my, ey⟩, _⟩ := mem_laid.mp m
      exact ⟨y, h.mem_iff.mp my, ey.trans e⟩
    · rintro ⟨y, my, e⟩
      exact ⟨pileOf xs k, mem_laid.mpr ⟨⟨y, h.mem_iff.mpr my, e⟩, rfl⟩, rfl⟩) fun k => (laid_tot xs k).trans (tot_perm h)
theorem laid_len (xs : List Pl) : (laidF xs).length ≤ xs.length := by
  unfold laidF
  rw [List.length_map, (List.mergeSort_perm _ _).length_eq]
  have go : ∀ (xs : List Pl) (ks : List K3), (xs.foldl (fun ks x => addK ks x.k) ks).length ≤ ks.length + xs.length := by
    intro xs
    induction xs with
    | nil => intro ks; simp
    | cons x xs ih =>
      intro ks
      have := ih (addK ks x.k)
      have l : (addK ks x.k).length ≤ ks.length + 1 := by unfold addK; split <;> simp
      simp only [List.foldl_cons, List.length_cons]
      omega
  have := go xs []
  simpa [keysP] using this
theorem laid_self {r : List Pl} (h : IsRow r) : laidF r = r := (laid_uniq h (fun _ => .rfl) fun _ => rfl).symm

/-! the places in turn -/
def atR (row : List Pl) (k : Nat) : Pl := row.getD k ⟨0, "", "", 0⟩
theorem atR_eq {row : List Pl} {k : Nat} (h : k < row.length) : atR row k = row[k] := by
  unfold atR
  rw [List.getD_eq_getElem?_getD, List.getElem?_eq_getElem h]; rfl
def may (own : Bool) (x : Pl) : Bool := !own || decide (x.m = "")
def cnd (own : Bool) : Option Str → Pl → Bool
  | none, x => may own x
  | some z, x => may own x && decide (x.s = z)
def places (row : List Pl) (own : Bool) (nm : Option Str) : List Nat := (List.range row.length).filter fun k => cnd own nm (atR row k)
def turns (row : List Pl) (own : Bool) (first : List Str) : List Nat := (first.flatMap fun z => places row own (some z)) ++ places row own none
/-- a row as a list or a tuple -/
structure RowS (s : D) (row : List Pl) : Prop where
  sq : seqD s = some (row.map Pl.d)
  ix : ∀ k : Nat, k < row.length → fIx s (.int (k : Int)) = some (atR row k).d
theorem row_at {row : List Pl} {k : Nat} (h : k < row.length) : atI (row.map Pl.d) (k : Int) = some (atR row k).d := by
  rw [atR_eq h]
  exact at_lit (by rw [List.getElem?_map, List.getElem?_eq_getElem h]; rfl)
theorem rowS_l {row : List Pl} : RowS (.lst (row.map Pl.d)) row := ⟨rfl, fun k h => row_at h⟩
theorem rowS_t {row : List Pl} : RowS (.tup (row.map Pl.d)) row := ⟨rfl, fun k h => row_at h⟩
theorem enum_row (row : List Pl) : enumD (row.map Pl.d) = (List.range row.length).map fun k : Nat => D.tup [.int (k : Int), (atR row k).d] := by
  unfold enumD
  refine List.ext_getElem (by simp) fun k h1 h2 => ?_
  simp at h1 h2
  simp [atR_eq h1]
theorem ixP1 {x : Pl} : fIx x.d (.int 1) = some (.str x.s) := rfl
theorem ixP2 {x : Pl} : fIx x.d (.int 2) = some (.str x.m) := rfl
theorem ixP3 {x : Pl} : fIx x.d (.int 3) = some (.int x.p) := by
  show atI [D.int x.b, .str x.s, .str x.m, .int x.p] 3 = _
  exact at_lit (n := 3) rfl
theorem may_lc {row : List Pl} {s1 s2 : D} {own : Bool} : lcGo (putTup 2 (putCons (put 4) (putCons (put 5) putNil))) (mOr (mNot (mB (mVar 2))) (mB (m2 fEq (m2 fIx (mVar 5) (mC (.int 2))) (mC (.str ""))))) l_turns_of_0 [some (.v s1), some (.v s2), some (.v (.bl own)), none, none, none, none, none] (enumD (row.map Pl.d)) = .ok ((places row own none).map fun k : Nat => .int (k : Int)) := by
  rw [enum_row]
  refine lcGo_filter (f := fun k : Nat => D.tup [.int (k : Int), (atR row k).d]) (g := fun k : Nat => D.int (k : Int)) (p := fun k => cnd own none (atR row k)) fun k _ => ⟨[some (.v s1), some (.v s2), some (.v (.bl own)), none, some (.v (.int (k : Int))), some (.v (atR row k).d), none, none], rfl, ?_, fun _ => by simp [l_turns_of_0]⟩
  generalize atR row k = x
  have h2 := ixP2 (x := x)
  generalize x.d = xd at h2
  cases own <;> simp [h2, cnd, may]
theorem name_lc {row : List Pl} {s1 s2 : D} {own : Bool} {z : Str} {x6 : O} (rs : RowS s1 row) : lcGo (put 4) (mB (m2 fEq (m2 fIx (m2 fIx (mVar 0) (mVar 4)) (mC (.int 1))) (mVar 7))) l_turns_of_1 [some (.v s1), some (.v s2), some (.v (.bl own)), some (.v (.lst ((places row own none).map fun k : Nat => .int (k : Int)))), none, none, some x6, some (.v (.str z))] ((places row own none).map fun k : Nat => .int (k : Int)) = .ok ((places row own (some z)).map fun k : Nat => .int (k : Int)) := by
  have e : places row own (some z) = (places row own none).filter fun k => decide ((atR row k).s = z) := by
    unfold places
    rw [List.filter_filter]
    refine List.filter_congr fun k _ => ?_
    show cnd own (some z) _ = (_ && cnd own none _)
    unfold cnd
    exact Bool.and_comm _ _
  rw [e]
  generalize hL : (places row own none).map (fun k : Nat => D.int (k : Int)) = Ls
  have : lcGo (put 4) (mB (m2 fEq (m2 fIx (m2 fIx (mVar 0) (mVar 4)) (mC (.int 1))) (mVar 7))) l_turns_of_1 [some (.v s1), some (.v s2), some (.v (.bl own)), some (.v (.lst Ls)), none, none, some x6, some (.v (.str z))] ((places row own none).map fun k : Nat => .int (k : Int)) = .ok (((places row own none).filter fun k => decide ((atR row k).s = z)).map fun k : Nat => .int (k : Int)) := by
    refine lcGo_filter fun k mk => ⟨[some (.v s1), some (.v s2), some (.v (.bl own)), some (.v (.lst Ls)), some (.v (.int (k : Int))), none, some x6, some (.v (.str z))], rfl, ?_, fun _ => by simp [l_turns_of_1]⟩
    have hk : k < row.length := List.mem_range.mp (List.mem_filter.mp mk).1
    have r := rs.ix k hk
    have h1 := ixP1 (x := atR row k)
    generalize (atR row k).d = xd at r h1
    simp [r, h1]
  rw [hL] at this
  exact this
theorem turns_go {row : List Pl} {s1 s2 : D} {own : Bool} (rs : RowS s1 row) (hr : row.length ≤ 100) : ∀ {first : List Str} {os : List Nat} {y : Option D}, os.length + 100 * first.length ≤ 10000 → ∃ y' : Option D,
    forGo (put 7) b_turns_of_0 [some (.v s1), some (.v s2), some (.v (.bl own)), some (.v (.lst ((places row own none).map fun k : Nat => .int (k : Int)))), none, none, some (.ml (os.map fun k : Nat => .v (.int (k : Int)))), y.map .v] (first.map .str) =
      .next [some (.v s1), some (.v s2), some (.v (.bl own)), some (.v (.lst ((places row own none).map fun k : Nat => .int (k : Int)))), none, none, some (.ml ((os ++ first.flatMap fun z => places row own (some z)).map fun k : Nat => .v (.int (k : Int)))), Option.map .v y']
  | [], os, y, _ => ⟨y, by simp⟩
  | z :: first, os, y, hl => by
    have pl : (places row own (some z)).length ≤ 100 := Nat.le_trans (List.length_filter_le _ _) (by simp; exact hr)
    have pl2 : (places row own none).length ≤ 100 := Nat.le_trans (List.length_filter_le _ _) (by simp; exact hr)
    obtain ⟨y', e⟩ := turns_go (s2 := s2) (own := own) rs hr (first := first) (os := os ++ places row own (some z)) (y := some (.str z)) (by simp at hl ⊢; omega)
    refine ⟨y', ?_⟩
    have lc := name_lc (s2 := s2) (own := own) (z := z) (x6 := .ml (os.map fun k : Nat => .v (.int (k : Int)))) rs
    have st : b_turns_of_0 [some (.v s1), some (.v s2), some (.v (.bl own)), some (.v (.lst ((places row own none).map fun k : Nat => .int (k : Int)))), none, none, some (.ml (os.map fun k : Nat => .v (.int (k : Int)))), some (.v (.str z))] = .next [some (.v s1), some (.v s2), some (.v (.bl own)), some (.v (.lst ((places row own none).map fun k : Nat => .int (k : Int)))), none, none, some (.ml ((os ++ places row own (some z)).map fun k : Nat => .v (.int (k : Int)))), some (.v (.str z))] := by
      have e3 : (((places row own (some z)).map fun k : Nat => D.int (k : Int)).map O.v) = (places row own (some z)).map fun k : Nat => O.v (.int (k : Int)) := by rw [List.map_map]; rfl
      have le : ((places row own none).map fun k : Nat => D.int (k : Int)).length ≤ 16777216 := by rw [List.length_map]; omega
      have le2 : os.length + (places row own (some z)).length ≤ 16777216 := by simp at hl; omega
      have le3 : ((places row own (some z)).map fun k : Nat => O.v (.int (k : Int))).length = (places row own (some z)).length := List.length_map ..
      generalize (places row own none).map (fun k : Nat => D.int (k : Int)) = M at lc le
      simp only [b_turns_of_0]
      simp [lc, le, le2]
    rw [List.map_cons, forGo_step (L1 := [some (.v s1), some (.v s2), some (.v (.bl own)), some (.v (.lst ((places row own none).map fun k : Nat => .int (k : Int)))), none, none, some (.ml (os.map fun k : Nat => .v (.int (k : Int)))), some (.v (.str z))]) (by simp) st, List.flatMap_cons, ← List.append_assoc]
    exact e
theorem turns_of_ok {row : List Pl} {s1 s2 : D} {own : Bool} {first : List Str} (rs : RowS s1 row) (hr : row.length ≤ 100) (h2 : itemsD s2 = some (first.map .str)) (hf : first.length ≤ 20) : e_turns_of.fn [s1, s2, .bl own] = .ok (.v (.lst ((turns row own first).map fun k : Nat => .int (k : Int)))) := by
  have m := may_lc (row := row) (s1 := s1) (s2 := s2) (own := own)
  obtain ⟨y', g⟩ := turns_go (s2 := s2) (own := own) rs hr (first := first) (os := []) (y := none) (by simp; omega)
  have pl2 : (places row own none).length ≤ 100 := Nat.le_trans (List.length_filter_le _ _) (by simp; exact hr)
  have fl : (first.flatMap fun z => places row own (some z)).length ≤ 100 * first.length := by
    clear g h2
    induction first with
    | nil => simp
    | cons z zs ih =>
      have pl : (places row own (some z)).length ≤ 100 := Nat.le_trans (List.length_filter_le _ _) (by simp; exact hr)
      have := ih (by simp at hf; omega)
      rw [List.flatMap_cons, List.length_append, List.length_cons]
      omega
  have el : (enumD (row.map Pl.d)).length ≤ 16777216 := by unfold enumD; simp; omega
  simp only [e_turns_of, runD, m_turns_of, sl0]
  unfold turns
  rw [List.map_append]
  have e3 : (((first.flatMap fun z => places row own (some z)).map fun k : Nat => O.v (.int (k : Int)))) = ((first.flatMap fun z => places row own (some z)).map fun k : Nat => D.int (k : Int)).map .v := by rw [List.map_map]; rfl
  have l1 : ((first.flatMap fun z => places row own (some z)).map fun k : Nat => D.int (k : Int)).length ≤ 2000 := by rw [List.length_map]; omega
  have l2 : ((places row own none).map fun k : Nat => D.int (k : Int)).length ≤ 100 := by rw [List.length_map]; omega
  rw [List.nil_append, e3] at g
  generalize (places row own none).map (fun k : Nat => D.int (k : Int)) = M at m g l2 ⊢
  generalize ((first.flatMap fun z => places row own (some z)).map fun k : Nat => D.int (k : Int)) = T at g l1 ⊢
  simp at g
  simp [rs.sq, m, el, h2, g, show T.length + M.length ≤ 16777216 by omega]

/-! what is drawn -/
def lk (G : List (Nat × Int)) (k : Nat) : Option Int := (G.find? fun q => decide (q.1 = k)).map (·.2)
def GO (G : List (Nat × Int)) : O := .mk (G.map fun q => ((.inl (q.1 : Int) : Key), .v (.int q.2)))
def GD (G : List (Nat × Int)) : List (Key × D) := G.map fun q => (.inl (q.1 : Int), .int q.2)
theorem GK_fr : ∀ G : List (Nat × Int), O.frK (G.map fun q => ((.inl (q.1 : Int) : Key), O.v (.int q.2))) = GD G
  | [] => rfl
  | q :: G => by
    have ih := GK_fr G
    rw [List.map_cons, O.frK, ih]; rfl
theorem GO_fr (G : List (Nat × Int)) : (GO G).fr = .dk (GD G) := by
  show D.dk (O.frK _) = _
  rw [GK_fr]
theorem lk_val {k : Nat} : ∀ {G : List (Nat × Int)}, valD (GD G) (.inl (k : Int)) = (lk G k).map .int
  | [] => rfl
  | q :: G => by
    have ih := lk_val (k := k) (G := G)
    unfold valD lk GD at ih ⊢
    rw [List.map_cons, List.find?_cons, List.find?_cons]
    by_cases c : q.1 = k
    · have : decide ((Sum.inl (q.1 : Int) : Key) = Sum.inl (k : Int)) = true := decide_eq_true (by rw [c])
      simp only [this, decide_eq_true c]
      rfl
    · have : decide ((Sum.inl (q.1 : Int) : Key) = Sum.inl (k : Int)) = false := decide_eq_false fun z => c (by injection z with z; omega)
      simp only [this, decide_eq_false c]
      exact ih
theorem G_nin {G : List (Nat × Int)} {k : Nat} : fNin (.int (k : Int)) (.dk (GD G)) = some (.bl (!(lk G k).isSome)) := by
  have h : fNin (.int (k : Int)) (.dk (GD G)) = some (.bl (!(valD (GD G) (.inl (k : Int))).isSome)) := rfl
  rw [h, lk_val, Option.isSome_map]
theorem G_ix {G : List (Nat × Int)} {k : Nat} {v : Int} (h : lk G k = some v) : fIx (.dk (GD G)) (.int (k : Int)) = some (.int v) := by
  have e : fIx (.dk (GD G)) (.int (k : Int)) = valD (GD G) (.inl (k : Int)) := by
    cases q : valD (GD G) (.inl (k : Int)) <;> simp [fIx, getD?, keyD, q]
  rw [e, lk_val, h]; rfl
theorem lk_none {G : List (Nat × Int)} {k : Nat} (h : lk G k = none) : ∀ q ∈ G, q.1 ≠ k := fun q m z => by
  unfold lk at h
  rw [Option.map_eq_none_iff, List.find?_eq_none] at h
  exact absurd (decide_eq_true z) (h q m)
theorem lk_snoc {G : List (Nat × Int)} {k j : Nat} {v : Int} (h : lk G k = none) : lk (G ++ [(k, v)]) j = if j = k then some v else lk G j := by
  unfold lk
  rw [List.find?_append]
  by_cases c : j = k
  · subst c
    have : G.find? (fun q => decide (q.1 = j)) = none := List.find?_eq_none.mpr fun q m => by
      simpa using lk_none h q m
    rw [this]
    simp
  · rw [if_neg c]
    cases e : G.find? (fun q => decide (q.1 = j)) with
    | some q => rfl
    | none => simp [Ne.symm c]
theorem GO_put {G : List (Nat × Int)} {k : Nat} {v : Int} (h : lk G k = none) (hl : G.length < 16777216) : dput (GO G) (.int (k : Int)) (.int v) = some (GO (G ++ [(k, v)])) := by
  have e : (List.any (G.map fun q => ((.inl (q.1 : Int) : Key), O.v (.int q.2))) fun kv => decide (kv.1 = Sum.inl (k : Int))) = false := by
    rw [List.any_eq_false]
    intro x m
    obtain ⟨q, mq, rfl⟩ := List.mem_map.mp m
    have := lk_none h q mq
    simp only [decide_eq_true_eq]
    intro z
    injection z with z
    exact this (by omega)
  unfold dput GO
  simp only [keyD, Option.map_some, List.length_map, Option.bind_some]
  rw [if_pos (show G.length < sizeLine from hl)]
  unfold putO
  rw [if_neg (by rw [e]; decide)]
  simp
def stepP (row : List Pl) (s : List (Nat × Int) × Int) (k : Nat) : List (Nat × Int) × Int := if lk s.1 k = none ∧ 0 < s.2 then (s.1 ++ [(k, min s.2 (atR row k).p)], s.2 - min s.2 (atR row k).p) else s
theorem gone_go {row : List Pl} {s1 a1 s2 a3 : D} (rs : RowS s1 row) : ∀ {T : List Nat} {G : List (Nat × Int)} {w : Int} {x : Option D}, (∀ k ∈ T, k < row.length) → G.length + T.length ≤ 100000 → ∃ x' : Option D,
    forGo (put 6) b_drawn_0 [some (.v s1), some (.v a1), some (.v s2), some (.v a3), some (GO G), some (.v (.int w)), x.map .v, none, none, none, none, none, none, none] (T.map fun k : Nat => .int (k : Int)) =
      .next [some (.v s1), some (.v a1), some (.v s2), some (.v a3), some (GO (T.foldl (stepP row) (G, w)).1), some (.v (.int (T.foldl (stepP row) (G, w)).2)), Option.map .v x', none, none, none, none, none, none, none]
  | [], G, w, x, _, _ => ⟨x, rfl⟩
  | k :: T, G, w, x, hT, hl => by
    have hk := hT k List.mem_cons_self
    have r := rs.ix k hk
    have h3 := ixP3 (x := atR row k)
    have gn := G_nin (G := G) (k := k)
    have fr := GO_fr G
    have tg : put 6 (.int (k : Int)) [some (.v s1), some (.v a1), some (.v s2), some (.v a3), some (GO G), some (.v (.int w)), x.map .v, none, none, none, none, none, none, none] = some [some (.v s1), some (.v a1), some (.v s2), some (.v a3), some (GO G), some (.v (.int w)), some (.v (.int (k : Int))), none, none, none, none, none, none, none] := by unfold GO; simp
    rw [List.map_cons, List.foldl_cons]
    simp only [List.length_cons] at hl
    by_cases c : lk G k = none ∧ 0 < w
    · have e1 : stepP row (G, w) k = (G ++ [(k, min w (atR row k).p)], w - min w (atR row k).p) := by unfold stepP; rw [if_pos c]
      obtain ⟨x', e⟩ := gone_go (a1 := a1) (s2 := s2) (a3 := a3) rs (T := T) (G := G ++ [(k, min w (atR row k).p)]) (w := w - min w (atR row k).p) (x := some (.int (k : Int))) (fun j m => hT j (List.mem_cons_of_mem _ m)) (by simp; omega)
      refine ⟨x', ?_⟩
      rw [e1]
      refine (forGo_step tg ?_).trans e
      have pu := GO_put (v := min w (atR row k).p) c.1 (by omega)
      have ix := G_ix (G := G ++ [(k, min w (atR row k).p)]) (k := k) (v := min w (atR row k).p) (by rw [lk_snoc c.1, if_pos rfl])
      have fr2 := GO_fr (G ++ [(k, min w (atR row k).p)])
      rw [c.1] at gn
      generalize GO (G ++ [(k, min w (atR row k).p)]) = G2 at pu fr2
      generalize GD (G ++ [(k, min w (atR row k).p)]) = d2 at ix fr2
      generalize hm : min w (atR row k).p = mw at pu ix
      generalize hxd : (atR row k).d = xd at r h3
      simp [b_drawn_0, fr, gn, c.2, r, h3, hm, pu, fr2, ix]
    · have e1 : stepP row (G, w) k = (G, w) := by unfold stepP; rw [if_neg c]
      obtain ⟨x', e⟩ := gone_go (a1 := a1) (s2 := s2) (a3 := a3) rs (T := T) (G := G) (w := w) (x := some (.int (k : Int))) (fun j m => hT j (List.mem_cons_of_mem _ m)) (by omega)
      refine ⟨x', ?_⟩
      rw [e1]
      refine (forGo_step tg ?_).trans e
      by_cases c1 : lk G k = none
      · have c2 : ¬ 0 < w := fun z => c ⟨c1, z⟩
        rw [c1] at gn
        simp [b_drawn_0, fr, gn, c2]
      · have : (lk G k).isSome = true := Option.isSome_iff_ne_none.mpr c1
        rw [this] at gn
        simp [b_drawn_0, fr, gn]

def tkF (row : List Pl) (t : Nat → Int) (ks : List Nat) : List Pl := (ks.filter fun k => decide (0 < t k)).map fun k => ⟨(atR row k).b, (atR row k).s, (atR row k).m, t k⟩
def lfF (row : List Pl) (t : Nat → Int) (ks : List Nat) : List Pl := (ks.filter fun k => decide (t k < (atR row k).p)).map fun k => ⟨(atR row k).b, (atR row k).s, (atR row k).m, (atR row k).p - t k⟩
def gt (G : List (Nat × Int)) (k : Nat) : Int := (lk G k).getD 0
theorem split_go {row : List Pl} {G : List (Nat × Int)} {a0 a1 a2 a3 a5 : D} : ∀ {ks : List Nat} {ta le : List Pl} {x6 x9 x10 x11 x12 x13 : Option D}, ta.length + le.length + 2 * ks.length ≤ 10000 → ∃ y6 y9 y10 y11 y12 y13 : Option D,
    forGo (putTup 2 (putCons (put 6) (putCons (putTup 4 (putCons (put 9) (putCons (put 10) (putCons (put 11) (putCons (put 12) putNil))))) putNil))) b_drawn_1
      [some (.v a0), some (.v a1), some (.v a2), some (.v a3), some (GO G), some (.v a5), x6.map .v, some (.ml ((ta.map Pl.d).map .v)), some (.ml ((le.map Pl.d).map .v)), x9.map .v, x10.map .v, x11.map .v, x12.map .v, x13.map .v] (ks.map fun k : Nat => D.tup [.int (k : Int), (atR row k).d]) =
    .next [some (.v a0), some (.v a1), some (.v a2), some (.v a3), some (GO G), some (.v a5), y6.map .v, some (.ml (((ta ++ tkF row (gt G) ks).map Pl.d).map .v)), some (.ml (((le ++ lfF row (gt G) ks).map Pl.d).map .v)), y9.map .v, y10.map .v, y11.map .v, y12.map .v, y13.map .v]
  | [], ta, le, x6, x9, x10, x11, x12, x13, _ => ⟨x6, x9, x10, x11, x12, x13, by simp [tkF, lfF]⟩
  | k :: ks, ta, le, x6, x9, x10, x11, x12, x13, hl => by
    simp only [List.length_cons] at hl
    have fr := GO_fr G
    have gg : getD? (.dk (GD G)) (.int (k : Int)) = some ((lk G k).map .int) := by rw [get_ki, lk_val]
    have g0 : ((lk G k).map D.int).getD (.int 0) = .int (gt G k) := by unfold gt; cases lk G k <;> rfl
    have isd : isDct (.dk (GD G)) = true := rfl
    have tk1 : tkF row (gt G) (k :: ks) = (if 0 < gt G k then [⟨(atR row k).b, (atR row k).s, (atR row k).m, gt G k⟩] else []) ++ tkF row (gt G) ks := by
      unfold tkF
      rw [List.filter_cons]
      by_cases c : 0 < gt G k <;> simp [c]
    have lf1 : lfF row (gt G) (k :: ks) = (if gt G k < (atR row k).p then [⟨(atR row k).b, (atR row k).s, (atR row k).m, (atR row k).p - gt G k⟩] else []) ++ lfF row (gt G) ks := by
      unfold lfF
      rw [List.filter_cons]
      by_cases c : gt G k < (atR row k).p <;> simp [c]
    rw [List.map_cons, tk1, lf1]
    generalize atR row k = x
    generalize gt G k = t at g0
    obtain ⟨y6, y9, y10, y11, y12, y13, e⟩ := split_go (row := row) (G := G) (a0 := a0) (a1 := a1) (a2 := a2) (a3 := a3) (a5 := a5) (ks := ks) (ta := ta ++ (if 0 < t then [⟨x.b, x.s, x.m, t⟩] else [])) (le := le ++ (if t < x.p then [⟨x.b, x.s, x.m, x.p - t⟩] else [])) (x6 := some (.int (k : Int))) (x9 := some (.int x.b)) (x10 := some (.str x.s)) (x11 := some (.str x.m)) (x12 := some (.int x.p)) (x13 := some (.int t)) (by
      have q1 : (if 0 < t then [(⟨x.b, x.s, x.m, t⟩ : Pl)] else []).length ≤ 1 := by split <;> simp
      have q2 : (if t < x.p then [(⟨x.b, x.s, x.m, x.p - t⟩ : Pl)] else []).length ≤ 1 := by split <;> simp
      rw [List.length_append, List.length_append]
      omega)
    refine ⟨y6, y9, y10, y11, y12, y13, ?_⟩
    rw [← List.append_assoc, ← List.append_assoc]
    have l1 : ta.length < 16777216 := by omega
    have l2 : le.length < 16777216 := by omega
    refine (forGo_step (L1 := [some (.v a0), some (.v a1), some (.v a2), some (.v a3), some (GO G), some (.v a5), some (.v (.int (k : Int))), some (.ml ((ta.map Pl.d).map .v)), some (.ml ((le.map Pl.d).map .v)), some (.v (.int x.b)), some (.v (.str x.s)), some (.v (.str x.m)), some (.v (.int x.p)), x13.map .v]) (by unfold GO Pl.d; simp) ?_).trans e
    generalize GO G = g at fr
    by_cases c1 : 0 < t <;> by_cases c2 : t < x.p <;> cases x13 <;> simp [b_drawn_1, fr, isd, gg, g0, c1, c2, l1, l2, Pl.d]
theorem drawn_ok {row : List Pl} {s1 s2 : D} {w : Int} {own : Bool} {first : List Str} (rs : RowS s1 row) (hr : row.length ≤ 100) (h2 : itemsD s2 = some (first.map .str)) (hf : first.length ≤ 20) :
    e_drawn.fn [s1, .int w, s2, .bl own] = .ok (.mt [.ml (((tkF row (gt ((turns row own first).foldl (stepP row) ([], w)).1) (List.range row.length)).map Pl.d).map .v), .ml (((lfF row (gt ((turns row own first).foldl (stepP row) ([], w)).1) (List.range row.length)).map Pl.d).map .v)]) := by
  have t := turns_of_ok (own := own) rs hr h2 hf
  have tl : ∀ k ∈ turns row own first, k < row.length := fun k m => by
    rcases List.mem_append.mp m with m | m
    · obtain ⟨z, _, m⟩ := List.mem_flatMap.mp m
      exact List.mem_range.mp (List.mem_filter.mp m).1
    · exact List.mem_range.mp (List.mem_filter.mp m).1
  have pl : ∀ nm, (places row own nm).length ≤ 100 := fun nm => Nat.le_trans (List.length_filter_le _ _) (by simp; exact hr)
  have tn : (turns row own first).length ≤ 2100 := by
    unfold turns
    rw [List.length_append]
    have := pl none
    have fl : (first.flatMap fun z => places row own (some z)).length ≤ 100 * first.length := by
      clear t h2 tl
      induction first with
      | nil => simp
      | cons z zs ih =>
        have := pl (some z)
        have := ih (by simp at hf; omega)
        rw [List.flatMap_cons, List.length_append, List.length_cons]
        omega
    omega
  obtain ⟨x', g⟩ := gone_go (a1 := .int w) (s2 := s2) (a3 := .bl own) rs (T := turns row own first) (G := []) (w := w) (x := none) tl (by simp; omega)
  generalize hG : (turns row own first).foldl (stepP row) ([], w) = st at g
  obtain ⟨G, w'⟩ := st
  obtain ⟨y6, y9, y10, y11, y12, y13, sg⟩ := split_go (row := row) (G := G) (a0 := s1) (a1 := .int w) (a2 := s2) (a3 := .bl own) (a5 := .int w') (ks := List.range row.length) (ta := []) (le := []) (x6 := x') (x9 := none) (x10 := none) (x11 := none) (x12 := none) (x13 := none) (by simp; omega)
  rw [← enum_row] at sg
  simp only [e_drawn, runD, m_drawn, sl0]
  rw [List.nil_append, List.nil_append] at sg
  generalize tkF row (gt G) (List.range row.length) = A at sg
  generalize lfF row (gt G) (List.range row.length) = B at sg
  have g0 : GO [] = .mk [] := rfl
  rw [g0] at g
  generalize GO G = go at g sg
  simp at g sg
  simp [mNewK, rs.sq, t, g, sg]

theorem isi_tup {n : Nat} {xs : List D} (h : Pn n (.tup xs)) : fIsi "tuple" (.tup xs) = some (.bl true) := by
  obtain ⟨p, e, _⟩ := h.py
  have : ∃ ps, p = .tuple ps := by
    unfold D.py at e
    obtain ⟨ps, _, rfl⟩ := map_some e
    exact ⟨ps, rfl⟩
  obtain ⟨ps, rfl⟩ := this
  unfold fIsi
  rw [e]
  rfl
theorem isi_lst {n : Nat} {xs : List D} (h : Pn n (.lst xs)) : fIsi "list" (.lst xs) = some (.bl true) := by
  obtain ⟨p, e, _⟩ := h.py
  have : ∃ ps, p = .list ps := by
    unfold D.py at e
    obtain ⟨ps, _, rfl⟩ := map_some e
    exact ⟨ps, rfl⟩
  obtain ⟨ps, rfl⟩ := this
  unfold fIsi
  rw [e]
  rfl
theorem Pl.pn (x : Pl) : Pn 1 x.d := .tup fun y my => by simp at my; rcases my with rfl | rfl | rfl | rfl <;> constructor
theorem rows_pn (ls : List Pl) : Pn 2 (.lst (ls.map Pl.d)) := .lst fun x m => by
  obtain ⟨l, _, rfl⟩ := List.mem_map.mp m
  exact l.pn
theorem isrow_go {a0 a1 : Option O} : ∀ {xs : List Pl} {x y : Option D}, ∃ x' y' : Option D,
    forGo (putTup 2 (putCons (put 2) (putCons (put 3) putNil))) b_x_law_is_row_0 [a0, a1, x.map .v, y.map .v] (zipD (xs.map Pl.d) (xs.map Pl.d)) = .next [a0, a1, Option.map .v x', Option.map .v y']
  | [], x, y => ⟨x, y, rfl⟩
  | z :: xs, x, y => by
    obtain ⟨x', y', e⟩ := isrow_go (a0 := a0) (a1 := a1) (xs := xs) (x := some z.d) (y := some z.d)
    refine ⟨x', y', ?_⟩
    have i0 : fIx z.d (.int 0) = some (.int z.b) := at_0
    have i3 : fIx z.d (.int 3) = some (.int z.p) := at_3
    have t1 : fIsi "tuple" z.d = some (.bl true) := isi_tup z.pn
    have t2 := z.pn.ne_self (by omega)
    have ez : zipD ((z :: xs).map Pl.d) ((z :: xs).map Pl.d) = .tup [z.d, z.d] :: zipD (xs.map Pl.d) (xs.map Pl.d) := by unfold zipD; simp
    rw [ez, forGo_step (L1 := [a0, a1, some (.v z.d), some (.v z.d)]) (L2 := [a0, a1, some (.v z.d), some (.v z.d)]) (by simp) (by simp [b_x_law_is_row_0, t1, t2, i0, i3, whole_ok])]
    exact e
theorem is_row_ok (xs : List Pl) : e_x_law_is_row.fn [.lst (xs.map Pl.d), .lst (xs.map Pl.d)] = .ok (.v (.bl true)) := by
  obtain ⟨x, y, e⟩ := isrow_go (a0 := some (.v (.lst (xs.map Pl.d)))) (a1 := some (.v (.lst (xs.map Pl.d)))) (xs := xs) (x := none) (y := none)
  simp only [e_x_law_is_row, runD, m_x_law_is_row, sl0]
  simp at e
  simp [isi_lst (rows_pn xs), e]

/-! a text among texts -/
theorem strs_py : ∀ zs : List Str, D.pyA (zs.map .str) = some (zs.map .str)
  | [] => rfl
  | z :: zs => by rw [List.map_cons, D.pyA, strs_py zs]; rfl
theorem strs_any {q : Str} : ∀ zs : List Str, ((zs.map PyData.str).any fun y => PyData.eqv y (.str q)) = decide (q ∈ zs)
  | [] => by simp
  | z :: zs => by
    rw [List.map_cons, List.any_cons, strs_any zs]
    have e := Pn.eqv (n := 0) (m := 0) (x := .str z) (y := .str q) .str .str (p := .str z) (q := .str q) rfl rfl
    by_cases c : z = q
    · subst c
      rw [e.mpr rfl]
      simp
    · have : PyData.eqv (.str z) (.str q) = false := by
        cases h : PyData.eqv (.str z) (.str q) with
        | false => rfl
        | true => exact absurd (by have := e.mp h; cases this; rfl) c
      rw [this]
      simp [Ne.symm c]
theorem fNin_strs {q : Str} {zs : List Str} : fNin (.str q) (.lst (zs.map .str)) = some (.bl (!decide (q ∈ zs))) := by
  have h : fNin (.str q) (.lst (zs.map .str)) = (match D.py (.str q), D.pyA (zs.map .str) with
    | some p, some ps => if min (PyData.depthAll ps) p.depth ≤ 64 then some (ps.any fun q => PyData.eqv q p) else none
    | _, _ => none).map fun b => .bl (!b) := rfl
  rw [h, strs_py]
  show (if min (PyData.depthAll (zs.map PyData.str)) (PyData.depth (.str q)) ≤ 64 then some ((zs.map PyData.str).any fun y => PyData.eqv y (.str q)) else none).map _ = _
  rw [if_pos (Nat.le_trans (Nat.min_le_right _ _) (by simp [PyData.depth])), strs_any]
  rfl

theorem is_pair_ok (A B : List Pl) : e_x_law_is_pair.fn [.tup [.lst (A.map Pl.d), .lst (B.map Pl.d)], .tup [.lst (A.map Pl.d), .lst (B.map Pl.d)]] = .ok (.v (.bl true)) := by
  have a := is_row_ok A
  have b := is_row_ok B
  have t : fIsi "tuple" (.tup [.lst (A.map Pl.d), .lst (B.map Pl.d)]) = some (.bl true) := isi_tup (n := 3) (.tup fun y my => by
    simp at my
    rcases my with rfl | rfl
    · exact rows_pn A
    · exact rows_pn B)
  simp only [e_x_law_is_pair, runD, m_x_law_is_pair, sl0]
  generalize A.map Pl.d = a' at a t
  generalize B.map Pl.d = b' at b t
  simp [t, a, b]
abbrev four : List Str := ["zz", "y", "q", "xx"]
theorem four_two {zs : List Str} (h : Few zs) : 2 ≤ (four.filter fun z => !decide (z ∈ zs)).length := by
  obtain ⟨h1, h2⟩ := h
  by_cases a : ("zz" : Str) ∈ zs <;> by_cases b : ("y" : Str) ∈ zs <;> by_cases c : ("q" : Str) ∈ zs <;> by_cases d : ("xx" : Str) ∈ zs <;> simp_all [four, List.filter]
theorem first_ok {zs : List Str} (hz : zs.length = 6) (hf : Few zs) {n : Int} (hn : 0 ≤ n ∧ n < 2000000000) : ∃ fs : List Str, fs.length ≤ 8 ∧ e_x_law_first.fn [.lst (zs.map .str), .int n] = .ok (.v (.lst (fs.map .str))) := by
  have f2 := four_two hf
  obtain ⟨fl, hfl⟩ : ∃ fl, four.filter (fun z => !decide (z ∈ zs)) = fl := ⟨_, rfl⟩
  have l0 : lcGo (put 3) (mB (m2 fNin (mVar 3) (mVar 0))) l_x_law_first_0 [some (.v (.lst (zs.map .str))), some (.v (.int n)), none, none, none, none] (four.map .str) = .ok (fl.map .str) := by
    rw [← hfl]
    exact lcGo_filter fun z _ => ⟨[some (.v (.lst (zs.map .str))), some (.v (.int n)), none, some (.v (.str z)), none, none], rfl, by simp [fNin_strs], fun _ => by simp [l_x_law_first_0]⟩
  rw [hfl] at f2
  have fl4 : fl.length ≤ 4 := by rw [← hfl]; exact List.length_filter_le _ _
  obtain ⟨tw, htw⟩ : ∃ tw, fl.take 2 = tw := ⟨_, rfl⟩
  have twl : tw.length = 2 := by rw [← htw, List.length_take]; omega
  obtain ⟨sm, hsm⟩ : ∃ sm, zs ++ tw = sm := ⟨_, rfl⟩
  have sl : sm.length = 8 := by rw [← hsm, List.length_append]; omega
  have c2 : cut (fl.map D.str) none (some 2) = tw.map .str := by rw [← htw, show (2 : Int) = ((2 : Nat) : Int) from rfl, cut_pre_l (by rw [List.length_map]; omega), List.map_take]
  have d9 : fDiv (.int n) (.int 9) = some (.int (n / 9)) := fDiv_ii (by omega)
  have l1 : lcGo (put 5) mYes l_x_law_first_1 [some (.v (.lst (zs.map .str))), some (.v (.int n)), some (.v (.lst (sm.map .str))), none, none, none] (rng 0 8) = .ok (((List.range 8).map fun k : Nat => sm.getD ((n / 9 + 3 * (k : Int)) % 8).toNat "").map .str) := by
    unfold rng
    rw [List.map_map]
    refine lcGo_map fun k mk => ⟨[some (.v (.lst (zs.map .str))), some (.v (.int n)), some (.v (.lst (sm.map .str))), none, none, some (.v (.int (0 + (k : Int))))], rfl, ?_⟩
    have hk := List.mem_range.mp mk
    have f3 : fMul (.int 3) (.int (k : Int)) = some (.int (3 * (k : Int))) := fMul_ii (Or.inl (by omega))
    obtain ⟨j, ej⟩ : ∃ j : Nat, (n / 9 + 3 * (k : Int)) % 8 = j := ⟨((n / 9 + 3 * (k : Int)) % 8).toNat, by omega⟩
    have aj : atI (sm.map D.str) ((n / 9 + 3 * (k : Int)) % 8) = some (.str (sm.getD ((n / 9 + 3 * (k : Int)) % 8).toNat "")) := by
      rw [ej]
      have hj : j < sm.length := by omega
      rw [at_lit (n := j) (by rw [List.getElem?_map, List.getElem?_eq_getElem hj]; rfl)]
      rw [Int.toNat_natCast, List.getD_eq_getElem?_getD, List.getElem?_eq_getElem hj]; rfl
    simp [l_x_law_first_1, f3, d9, aj]
  generalize ((List.range 8).map fun k : Nat => sm.getD ((n / 9 + 3 * (k : Int)) % 8).toNat "") = tu at l1
  obtain ⟨v, e, _⟩ := pickI (ds := [.int 0, .int 1, .int 2, .int 3, .int 8, .int 0, .int 1, .int 5, .int 2]) (i := n % 9) (ns := [0, 1, 2, 3, 8, 0, 1, 5, 2]) (P := fun v => 0 ≤ v ∧ v ≤ 8) rfl (by omega) (by simp; omega) (by decide)
  obtain ⟨w, ew⟩ : ∃ w : Nat, v = w := ⟨v.toNat, by omega⟩
  subst ew
  have r8 : rng1 (.int 8) = some (rng 0 8) := by rw [rng1_ok ⟨by omega, by omega⟩]; rfl
  refine ⟨cut tu none (some (w : Int)), ?_, ?_⟩
  · have : (cut tu none (some (w : Int))).length ≤ w := by
      unfold cut
      rw [HT.sIx_none, HT.sIx_nat, List.length_take]
      omega
    omega
  · have cm : cut (tu.map D.str) none (some (w : Int)) = (cut tu none (some (w : Int))).map D.str := by
      unfold cut
      rw [List.length_map, List.map_take, List.map_drop]
    simp only [e_x_law_first, runD, m_x_law_first, sl0]
    rw [← hsm, List.map_append] at l1
    generalize fl.map D.str = fd at l0 c2
    generalize hrg : rng 0 8 = rg at l1 r8
    simp at l0 e
    simp [l0, c2, e, cm, r8, l1, hz, twl, show rg.length ≤ 16777216 by rw [← hrg]; decide]

theorem sum0 : ∀ {ks : List Pl}, (∀ k ∈ ks, 1 ≤ k.p) → 0 ≤ (ks.map (·.p)).sum
  | [], _ => by simp
  | k :: ks, h => by
    have := sum0 (ks := ks) fun j m => h j (List.mem_cons_of_mem _ m)
    have := h k List.mem_cons_self
    rw [List.map_cons, List.sum_cons]; omega
theorem putF_pos {row : List Pl} {x : Pl} (h : ∀ y ∈ row, 1 ≤ y.p) (hx : 1 ≤ x.p) : ∀ y ∈ putF row x, 1 ≤ y.p := by
  intro y m
  unfold putF at m
  dsimp only at m
  rcases List.mem_append.mp m with m | m
  · rcases List.mem_append.mp m with m | m
    · exact h y (List.mem_filter.mp (List.mem_of_mem_take m)).1
    · rw [List.mem_singleton.mp m]
      exact Int.le_trans hx (Int.le_add_of_nonneg_right (sum0 fun k mk => h k (List.mem_filter.mp mk).1))
  · exact h y (List.mem_filter.mp (List.mem_of_mem_drop m)).1
theorem fold_pos : ∀ {ps row : List Pl}, (∀ y ∈ row, 1 ≤ y.p) → (∀ y ∈ ps, 1 ≤ y.p) → ∀ y ∈ ps.foldl putF row, 1 ≤ y.p
  | [], row, h, _ => h
  | x :: ps, row, h, g => by
    rw [List.foldl_cons]
    exact fold_pos (putF_pos h (g x List.mem_cons_self)) fun y m => g y (List.mem_cons_of_mem _ m)
theorem tkF_len (row : List Pl) (t : Nat → Int) : (tkF row t (List.range row.length)).length ≤ row.length := by
  unfold tkF; rw [List.length_map]; exact Nat.le_trans (List.length_filter_le _ _) (by simp)
theorem lfF_len (row : List Pl) (t : Nat → Int) : (lfF row t (List.range row.length)).length ≤ row.length := by
  unfold lfF; rw [List.length_map]; exact Nat.le_trans (List.length_filter_le _ _) (by simp)

theorem tot_snoc (xs : List Pl) (x : Pl) (k : K3) : totP (xs ++ [x]) k = totP xs k + if x.k = k then x.p else 0 := by
  rw [tot_app, tot_cons, tot_nil]; omega

/-! a pile put into a row: what laid tells -/
theorem key_k {x y : Pl} : x.key = y.key ↔ x.k = y.k := by
  rw [key_eq]
  unfold Pl.k
  simp
theorem kLt_k (x y : Pl) : kLt x y = x.k.lt y.k := by
  have h := kLt_ok x y
  have e : ∀ x : Pl, (D.tup x.key).py = some (.tuple [.int x.b, .str x.s, .str x.m]) := fun _ => rfl
  have h0 : ltD (.tup x.key) (.tup y.key) = (match (D.tup x.key).py, (D.tup y.key).py with
    | some p, some q => if W.alike p q = true ∧ p.depth ≤ 64 ∧ q.depth ≤ 64 ∧ pyN p = false ∧ pyN q = false then some (W.dataLt p q) else none
    | _, _ => none) := rfl
  rw [h0, e, e] at h
  dsimp only at h
  rw [if_pos ⟨rfl, by simp [PyData.depth, PyData.depthAll], by simp [PyData.depth, PyData.depthAll], rfl, rfl⟩] at h
  exact (Option.some.inj h).symm
theorem take_lt {x : K3} : ∀ {r : List Pl}, IsRow r → r.take (r.filter fun y => y.k.lt x).length = r.filter (fun y => y.k.lt x) ∧ r.drop (r.filter fun y => y.k.lt x).length = r.filter (fun y => !y.k.lt x)
  | [], _ => ⟨rfl, rfl⟩
  | y :: r, h => by
    obtain ⟨a, b⟩ := List.pairwise_cons.mp h
    cases e : y.k.lt x with
    | true =>
      obtain ⟨h1, h2⟩ := take_lt (x := x) b
      simp only [List.filter_cons, e, if_true, List.length_cons, List.take_succ_cons, List.drop_succ_cons, Bool.not_true, Bool.false_eq_true, if_false]
      exact ⟨by rw [h1], h2⟩
    | false =>
      have z : r.filter (fun y => y.k.lt x) = [] := List.filter_eq_nil_iff.mpr fun w m h => by
        have := K3.tr (a w m) h
        rw [e] at this; cases this
      have z2 : r.filter (fun y => !y.k.lt x) = r := List.filter_eq_self.mpr fun w m => by
        cases q : w.k.lt x with
        | false => rfl
        | true => have := K3.tr (a w m) q; rw [e] at this; cases this
      simp only [List.filter_cons, e, Bool.false_eq_true, if_false, z, Bool.not_false, if_true, z2]
      exact ⟨rfl, rfl⟩
theorem isRow_filter {p : Pl → Bool} {r : List Pl} (h : IsRow r) : IsRow (r.filter p) := List.Pairwise.filter p h
open Classical in
theorem putF_eq {row : List Pl} (h : IsRow row) (x : Pl) : putF row x = laidF (row ++ [x]) := by
  unfold putF
  dsimp only
  have f1 : (row.filter fun y => !decide (y.key = x.key)) = row.filter fun y => !decide (y.k = x.k) := List.filter_congr fun y _ => by simp [key_k]
  have f2 : (row.filter fun y => decide (y.key = x.key)) = row.filter fun y => decide (y.k = x.k) := List.filter_congr fun y _ => by simp [key_k]
  rw [f1, f2]
  have ts : x.p + ((row.filter fun y => decide (y.k = x.k)).map (·.p)).sum = totP (row ++ [x]) x.k := by
    rw [tot_snoc, if_pos rfl]
    unfold totP
    have : (row.filter fun y => decide (y.k = x.k)) = row.filter fun y => decide (y.k = x.k) := rfl
    omega
  rw [ts]
  generalize hm : (row.filter fun y => !decide (y.k = x.k)) = made
  have rm : IsRow made := hm ▸ isRow_filter h
  have nm : ∀ y ∈ made, y.k ≠ x.k := fun y m => by
    rw [← hm] at m
    simpa using (List.mem_filter.mp m).2
  have f3 : (made.filter fun y => kLt y x) = made.filter fun y => y.k.lt x.k := List.filter_congr fun y _ => kLt_k y x
  rw [f3, (take_lt rm).1, (take_lt rm).2]
  have kk : (⟨x.b, x.s, x.m, totP (row ++ [x]) x.k⟩ : Pl).k = x.k := rfl
  have tm : ∀ k, totP made k = if x.k = k then 0 else totP row k := fun k => by
    by_cases c : x.k = k
    · rw [if_pos c, tot_not fun y m e => nm y m (e.trans c.symm)]
    · rw [if_neg c, ← hm]
      unfold totP
      rw [List.filter_filter]
      congr 2
      refine List.filter_congr fun y _ => ?_
      by_cases e : y.k = k
      · have : ¬ y.k = x.k := fun z => c (z.symm.trans e)
        simp [e] at this ⊢
        exact this
      · simp [e]
  refine laid_uniq ?_ (fun k => ?_) fun k => ?_
  · unfold IsRow
    rw [List.append_assoc]
    refine List.pairwise_append.mpr ⟨isRow_filter rm, List.pairwise_append.mpr ⟨List.pairwise_singleton _ _, isRow_filter rm, fun a ha b hb => ?_⟩, fun a ha b hb => ?_⟩
    · rw [List.mem_singleton.mp ha, kk]
      obtain ⟨m, e⟩ := List.mem_filter.mp hb
      cases q : x.k.lt b.k with
      | true => rfl
      | false => exact absurd (K3.tot (by simpa using e) q) (nm b m)
    · obtain ⟨m, e⟩ := List.mem_filter.mp ha
      rcases List.mem_append.mp hb with hb | hb
      · rw [List.mem_singleton.mp hb, kk]; exact e
      · obtain ⟨m2, e2⟩ := List.mem_filter.mp hb
        cases q : x.k.lt b.k with
        | true => exact K3.tr e q
        | false => exact absurd (K3.tot (by simpa using e2) q) (nm b m2)
  · constructor
    · rintro ⟨y, m, e⟩
      rcases List.mem_append.mp m with m | m
      · rcases List.mem_append.mp m with m | m
        · have := (List.mem_filter.mp m).1
          rw [← hm] at this
          exact ⟨y, List.mem_append_left _ (List.mem_filter.mp this).1, e⟩
        · rw [List.mem_singleton.mp m, kk] at e
          exact ⟨x, by simp, e⟩
      · have := (List.mem_filter.mp m).1
        rw [← hm] at this
        exact ⟨y, List.mem_append_left _ (List.mem_filter.mp this).1, e⟩
    · rintro ⟨y, m, e⟩
      by_cases c : y.k = x.k
      · exact ⟨_, List.mem_append_left _ (List.mem_append_right _ (List.mem_singleton.mpr rfl)), by rw [kk, ← c]; exact e⟩
      · have my : y ∈ made := by
          rw [← hm]
          refine List.mem_filter.mpr ⟨?_, by simpa using c⟩
          rcases List.mem_append.mp m with m | m
          · exact m
          · rw [List.mem_singleton.mp m] at c; exact absurd rfl c
        cases q : y.k.lt x.k with
        | true => exact ⟨y, List.mem_append_left _ (List.mem_append_left _ (List.mem_filter.mpr ⟨my, q⟩)), e⟩
        | false => exact ⟨y, List.mem_append_right _ (List.mem_filter.mpr ⟨my, by rw [q]; rfl⟩), e⟩
  · have sp : totP made k = totP (made.filter fun y => y.k.lt x.k) k + totP (made.filter fun y => !y.k.lt x.k) k := by
      rw [← tot_app]
      have := take_lt (x := x.k) rm
      rw [← this.1, ← this.2, List.take_append_drop]
    have kp : (⟨x.b, x.s, x.m, totP (row ++ [x]) x.k⟩ : Pl).p = totP (row ++ [x]) x.k := rfl
    rw [tot_app, tot_app, tot_cons, tot_nil, kk, kp]
    have e1 := tm k
    by_cases c : x.k = k
    · rw [if_pos c] at e1 ⊢
      subst c
      omega
    · rw [if_neg c] at e1 ⊢
      rw [tot_snoc, if_neg c]
      omega
theorem laid_app {xs ys : List Pl} : laidF (laidF xs ++ ys) = laidF (xs ++ ys) := laid_uniq (laid_row _) (fun k => by
    constructor
    · rintro ⟨x, m, e⟩
      obtain ⟨⟨y, my, ey⟩, _⟩ := mem_laid.mp m
      rcases List.mem_append.mp my with my | my
      · obtain ⟨⟨z, mz, ez⟩, _⟩ := mem_laid.mp my
        exact ⟨z, List.mem_append_left _ mz, (ez.trans ey).trans e⟩
      · exact ⟨y, List.mem_append_right _ my, ey.trans e⟩
    · rintro ⟨y, my, e⟩
      refine ⟨pileOf (laidF xs ++ ys) k, mem_laid.mpr ⟨?_, rfl⟩, rfl⟩
      rcases List.mem_append.mp my with my | my
      · exact ⟨pileOf xs k, List.mem_append_left _ (mem_laid.mpr ⟨⟨y, my, e⟩, rfl⟩), rfl⟩
      · exact ⟨y, List.mem_append_right _ my, e⟩) fun k => by rw [laid_tot, tot_app, tot_app, laid_tot]
theorem rowF_eq : ∀ (ps : List Pl) {xs : List Pl}, ps.foldl putF (laidF xs) = laidF (xs ++ ps)
  | [], xs => by simp
  | p :: ps, xs => by rw [List.foldl_cons, putF_eq (laid_row xs), laid_app, rowF_eq ps, List.append_assoc]; rfl
theorem rowF_nil (ps : List Pl) : ps.foldl putF [] = laidF ps := by
  have := rowF_eq ps (xs := [])
  rwa [show laidF [] = [] by simp [laidF, keysP], List.nil_append] at this

/-! the places in turn, drawn by what is taken of each -/
def updT (t : Nat → Int) (k : Nat) (v : Int) : Nat → Int := fun j => if j = k then v else t j
def stepU (row : List Pl) (s : (Nat → Int) × Int) (k : Nat) : (Nat → Int) × Int := (updT s.1 k (s.1 k + min s.2 ((atR row k).p - s.1 k)), s.2 - min s.2 ((atR row k).p - s.1 k))
structure Tie (row : List Pl) (G : List (Nat × Int)) (t : Nat → Int) (w : Int) : Prop where
  ft : t = gt G
  fw : 0 ≤ w
  fg : ∀ k v, lk G k = some v → (v = (atR row k).p ∨ w = 0) ∧ v ≤ (atR row k).p
theorem upd_same {t : Nat → Int} {k : Nat} {v : Int} (h : v = t k) : updT t k v = t := by
  funext j
  unfold updT
  by_cases e : j = k
  · rw [if_pos e, h, e]
  · rw [if_neg e]
theorem tie_step {row : List Pl} {G : List (Nat × Int)} {t : Nat → Int} {w : Int} {k : Nat} (h : Tie row G t w) (hp : 0 ≤ (atR row k).p) : Tie row (stepP row (G, w) k).1 (stepU row (t, w) k).1 (stepU row (t, w) k).2 ∧ (stepP row (G, w) k).2 = (stepU row (t, w) k).2 := by
  obtain ⟨ht, hw, hg⟩ := h
  cases e : lk G k with
  | none =>
    have t0 : t k = 0 := by rw [ht]; unfold gt; rw [e]; rfl
    by_cases c : 0 < w
    · have e1 : stepP row (G, w) k = (G ++ [(k, min w (atR row k).p)], w - min w (atR row k).p) := by unfold stepP; rw [if_pos ⟨e, c⟩]
      have e2 : stepU row (t, w) k = (updT t k (min w (atR row k).p), w - min w (atR row k).p) := by
        unfold stepU
        dsimp only
        rw [t0, Int.sub_zero, Int.zero_add]
      rw [e1, e2]
      refine ⟨⟨?_, by show 0 ≤ w - _; omega, fun j v q => ?_⟩, rfl⟩
      · funext j
        show updT t k _ j = (lk (G ++ _) j).getD 0
        rw [lk_snoc e]
        unfold updT
        by_cases c2 : j = k
        · rw [if_pos c2, if_pos c2]; rfl
        · rw [if_neg c2, if_neg c2, ht]; rfl
      · have q' : lk (G ++ [(k, min w (atR row k).p)]) j = some v := q
        rw [lk_snoc e] at q'
        by_cases c2 : j = k
        · rw [if_pos c2] at q'
          cases q'
          subst c2
          show (min w (atR row j).p = (atR row j).p ∨ w - min w (atR row j).p = 0) ∧ _
          omega
        · rw [if_neg c2] at q'
          have := hg j v q'
          exact ⟨.inl (this.1.resolve_right (by omega)), this.2⟩
    · have w0 : w = 0 := by omega
      have e1 : stepP row (G, w) k = (G, w) := by unfold stepP; rw [if_neg fun z => c z.2]
      have e2 : stepU row (t, w) k = (t, w) := by
        unfold stepU
        dsimp only
        have m0 : min w ((atR row k).p - t k) = 0 := by omega
        rw [m0, upd_same (by omega), Int.sub_zero]
      rw [e1, e2]
      exact ⟨⟨ht, hw, hg⟩, rfl⟩
  | some v =>
    have tv : t k = v := by rw [ht]; unfold gt; rw [e]; rfl
    have hv := hg k v e
    have e1 : stepP row (G, w) k = (G, w) := by unfold stepP; rw [if_neg fun z => by have := z.1; rw [e] at this; cases this]
    have e2 : stepU row (t, w) k = (t, w) := by
      unfold stepU
      dsimp only
      have m0 : min w ((atR row k).p - t k) = 0 := by rcases hv.1 with h | h <;> omega
      rw [m0, upd_same (by omega), Int.sub_zero]
    rw [e1, e2]
    exact ⟨⟨ht, hw, hg⟩, rfl⟩
theorem tie_fold {row : List Pl} : ∀ {T : List Nat} {G : List (Nat × Int)} {t : Nat → Int} {w : Int}, (∀ k ∈ T, 0 ≤ (atR row k).p) → Tie row G t w → Tie row (T.foldl (stepP row) (G, w)).1 (T.foldl (stepU row) (t, w)).1 (T.foldl (stepU row) (t, w)).2
  | [], G, t, w, _, h => h
  | k :: T, G, t, w, hp, h => by
    obtain ⟨h1, h2⟩ := tie_step (k := k) h (hp k List.mem_cons_self)
    rw [List.foldl_cons, List.foldl_cons]
    have e : stepP row (G, w) k = ((stepP row (G, w) k).1, (stepU row (t, w) k).2) := by rw [← h2]
    rw [e]
    exact tie_fold (fun j m => hp j (List.mem_cons_of_mem _ m)) h1

/-! drawing by keys -/
def updK (t : K3 → Int) (k : K3) (v : Int) : K3 → Int := fun j => if j = k then v else t j
def stepK (s : (K3 → Int) × Int) (x : Pl) : (K3 → Int) × Int := (updK s.1 x.k (s.1 x.k + min s.2 (x.p - s.1 x.k)), s.2 - min s.2 (x.p - s.1 x.k))
def turnsP (row : List Pl) (own : Bool) (fs : List Str) : List Pl := (fs.flatMap fun z => row.filter (cnd own (some z))) ++ row.filter (cnd own none)
def tk (row : List Pl) (t : K3 → Int) : List Pl := (row.filter fun x => decide (0 < t x.k)).map fun x => ⟨x.b, x.s, x.m, t x.k⟩
def lf (row : List Pl) (t : K3 → Int) : List Pl := (row.filter fun x => decide (t x.k < x.p)).map fun x => ⟨x.b, x.s, x.m, x.p - t x.k⟩
theorem updK_at {t : K3 → Int} {k : K3} {v : Int} : updK t k v k = v := if_pos rfl
theorem updK_ne {t : K3 → Int} {k j : K3} {v : Int} (h : j ≠ k) : updK t k v j = t j := if_neg h
theorem row_keys {row : List Pl} (h : IsRow row) {x y : Pl} (mx : x ∈ row) (my : y ∈ row) (e : x.k = y.k) : x = y := by
  have a := row_tot h mx
  have b := row_tot h my
  rw [e] at a
  exact pl_ext e (a.symm.trans b)
theorem range_atR (row : List Pl) : (List.range row.length).map (atR row) = row :=
  List.ext_getElem (by simp) fun k a b => by
    simp only [List.getElem_map, List.getElem_range]
    exact atR_eq b
theorem places_map {row : List Pl} {own : Bool} {nm : Option Str} : (places row own nm).map (atR row) = row.filter (cnd own nm) := by
  unfold places
  have := List.filter_map (f := atR row) (p := cnd own nm) (l := List.range row.length)
  rw [range_atR] at this
  exact this.symm
theorem turns_map {row : List Pl} {own : Bool} {fs : List Str} : (turns row own fs).map (atR row) = turnsP row own fs := by
  unfold turns turnsP
  rw [List.map_append, places_map, List.map_flatMap]
  simp only [places_map]
theorem atR_mem {row : List Pl} {k : Nat} (h : k < row.length) : atR row k ∈ row := by rw [atR_eq h]; exact List.getElem_mem h
theorem atR_inj {row : List Pl} (h : IsRow row) {j k : Nat} (hj : j < row.length) (hk : k < row.length) (e : (atR row j).k = (atR row k).k) : j = k := by
  rw [atR_eq hj, atR_eq hk] at e
  rcases Nat.lt_trichotomy j k with c | c | c
  · exact absurd e (K3.ne (List.pairwise_iff_getElem.mp h j k hj hk c))
  · exact c
  · exact absurd e.symm (K3.ne (List.pairwise_iff_getElem.mp h k j hk hj c))
/-- the places' fold and the keys' -/
theorem fold_keys {row : List Pl} (h : IsRow row) : ∀ {T : List Nat} {t : Nat → Int} {u : K3 → Int} {w : Int}, (∀ k ∈ T, k < row.length) → (∀ k, k < row.length → t k = u (atR row k).k) →
    (∀ k, k < row.length → (T.foldl (stepU row) (t, w)).1 k = ((T.map (atR row)).foldl stepK (u, w)).1 (atR row k).k) ∧ (T.foldl (stepU row) (t, w)).2 = ((T.map (atR row)).foldl stepK (u, w)).2
  | [], t, u, w, _, g => ⟨g, rfl⟩
  | j :: T, t, u, w, hT, g => by
    have hj := hT j List.mem_cons_self
    have e := g j hj
    have s2 : (stepU row (t, w) j).2 = (stepK (u, w) (atR row j)).2 := by unfold stepU stepK; dsimp only; rw [e]
    have s1 : ∀ k, k < row.length → (stepU row (t, w) j).1 k = (stepK (u, w) (atR row j)).1 (atR row k).k := fun k hk => by
      unfold stepU stepK updT
      dsimp only
      by_cases c : k = j
      · rw [if_pos c, c, updK_at, e]
      · rw [if_neg c, updK_ne (fun z => c (atR_inj h hk hj z)), g k hk]
    rw [List.foldl_cons, List.map_cons, List.foldl_cons]
    have := fold_keys h (T := T) (t := (stepU row (t, w) j).1) (u := (stepK (u, w) (atR row j)).1) (w := (stepU row (t, w) j).2) (fun k m => hT k (List.mem_cons_of_mem _ m)) s1
    rw [show (((stepU row (t, w) j).1, (stepU row (t, w) j).2) : (Nat → Int) × Int) = stepU row (t, w) j from rfl] at this
    rw [show (((stepK (u, w) (atR row j)).1, (stepU row (t, w) j).2) : (K3 → Int) × Int) = stepK (u, w) (atR row j) from by rw [s2]] at this
    exact this
theorem tkF_keys {row : List Pl} {t : Nat → Int} {u : K3 → Int} (g : ∀ k, k < row.length → t k = u (atR row k).k) : tkF row t (List.range row.length) = tk row u := by
  unfold tkF tk
  have e : (row.filter fun x => decide (0 < u x.k)) = ((List.range row.length).filter fun k => decide (0 < t k)).map (atR row) := by
    have := List.filter_map (f := atR row) (p := fun x => decide (0 < u x.k)) (l := List.range row.length)
    rw [range_atR] at this
    rw [this]
    congr 1
    refine List.filter_congr fun k m => ?_
    rw [g k (List.mem_range.mp m)]; rfl
  rw [e, List.map_map]
  refine List.map_congr_left fun k m => ?_
  have := List.mem_range.mp (List.mem_filter.mp m).1
  simp only [Function.comp_apply, g k this]
theorem lfF_keys {row : List Pl} {t : Nat → Int} {u : K3 → Int} (g : ∀ k, k < row.length → t k = u (atR row k).k) : lfF row t (List.range row.length) = lf row u := by
  unfold lfF lf
  have e : (row.filter fun x => decide (u x.k < x.p)) = ((List.range row.length).filter fun k => decide (t k < (atR row k).p)).map (atR row) := by
    have := List.filter_map (f := atR row) (p := fun x => decide (u x.k < x.p)) (l := List.range row.length)
    rw [range_atR] at this
    rw [this]
    congr 1
    refine List.filter_congr fun k m => ?_
    rw [g k (List.mem_range.mp m)]; rfl
  rw [e, List.map_map]
  refine List.map_congr_left fun k m => ?_
  have := List.mem_range.mp (List.mem_filter.mp m).1
  simp only [Function.comp_apply, g k this]
/-- what is drawn of a row -/
def D1 (row : List Pl) (own : Bool) (fs : List Str) (w : Int) : K3 → Int := ((turnsP row own fs).foldl stepK (fun _ => 0, w)).1
theorem gone_keys {row : List Pl} (h : IsRow row) (hp : ∀ x ∈ row, 1 ≤ x.p) {own : Bool} {fs : List Str} {w : Int} (hw : 0 ≤ w) : ∀ k, k < row.length → gt ((turns row own fs).foldl (stepP row) ([], w)).1 k = D1 row own fs w (atR row k).k := by
  have tl : ∀ k ∈ turns row own fs, k < row.length := fun k m => by
    rcases List.mem_append.mp m with m | m
    · obtain ⟨z, _, m⟩ := List.mem_flatMap.mp m
      exact List.mem_range.mp (List.mem_filter.mp m).1
    · exact List.mem_range.mp (List.mem_filter.mp m).1
  intro k hk
  have a := (tie_fold (row := row) (T := turns row own fs) (G := []) (t := fun _ => 0) (w := w) (fun k m => by have := hp _ (atR_mem (tl k m)); omega) ⟨by funext k; rfl, hw, fun k v q => by cases q⟩).ft
  have b := (fold_keys h (T := turns row own fs) (t := fun _ => 0) (u := fun _ => 0) (w := w) tl (fun _ _ => rfl)).1 k hk
  rw [← a, b, turns_map]
  rfl
theorem drawnK {row : List Pl} {s1 s2 : D} {w : Int} {own : Bool} {fs : List Str} (h : IsRow row) (hp : ∀ x ∈ row, 1 ≤ x.p) (hw : 0 ≤ w) (rs : RowS s1 row) (hr : row.length ≤ 100) (h2 : itemsD s2 = some (fs.map .str)) (hf : fs.length ≤ 20) :
    e_drawn.fn [s1, .int w, s2, .bl own] = .ok (.mt [.ml (((tk row (D1 row own fs w)).map Pl.d).map .v), .ml (((lf row (D1 row own fs w)).map Pl.d).map .v)]) := by
  have := drawn_ok (w := w) (own := own) rs hr h2 hf
  rw [tkF_keys (gone_keys h hp hw), lfF_keys (gone_keys h hp hw)] at this
  exact this

/-! laws of drawing -/
structure Good (row : List Pl) (u : K3 → Int) : Prop where
  lo : ∀ k, 0 ≤ u k
  hi : ∀ x ∈ row, u x.k ≤ x.p
  ou : ∀ k, (∀ x ∈ row, x.k ≠ k) → u k = 0
theorem good0 {row : List Pl} (hp : ∀ x ∈ row, 1 ≤ x.p) : Good row fun _ => 0 := ⟨fun _ => Int.le_refl 0, fun x m => by have := hp x m; omega, fun _ _ => rfl⟩
theorem upd_self {u : K3 → Int} {k : K3} {v : Int} (h : v = u k) : updK u k v = u := by
  funext j
  by_cases c : j = k
  · rw [c, updK_at, h]
  · exact updK_ne c
theorem good_step {row : List Pl} (h : IsRow row) {u : K3 → Int} {w : Int} {x : Pl} (m : x ∈ row) (g : Good row u) (hw : 0 ≤ w) :
    Good row (stepK (u, w) x).1 ∧ 0 ≤ (stepK (u, w) x).2 ∧ ∀ k, u k ≤ (stepK (u, w) x).1 k := by
  have a := g.lo x.k
  have b := g.hi x m
  refine ⟨⟨fun k => ?_, fun y my => ?_, fun k hk => ?_⟩, ?_, fun k => ?_⟩ <;> unfold stepK <;> dsimp only
  · by_cases c : k = x.k
    · rw [c, updK_at]; omega
    · rw [updK_ne c]; exact g.lo k
  · by_cases c : y.k = x.k
    · have := row_keys h my m c
      subst this
      rw [updK_at]; omega
    · rw [updK_ne c]; exact g.hi y my
  · rw [updK_ne fun e => hk x m e.symm]; exact g.ou k hk
  · omega
  · by_cases c : k = x.k
    · rw [c, updK_at]; omega
    · rw [updK_ne c]; omega
theorem good_fold {row : List Pl} (h : IsRow row) : ∀ {T : List Pl} {u : K3 → Int} {w : Int}, (∀ x ∈ T, x ∈ row) → Good row u → 0 ≤ w →
    Good row (T.foldl stepK (u, w)).1 ∧ 0 ≤ (T.foldl stepK (u, w)).2 ∧ ∀ k, u k ≤ (T.foldl stepK (u, w)).1 k
  | [], u, w, _, g, hw => ⟨g, hw, fun k => Int.le_refl _⟩
  | x :: T, u, w, hT, g, hw => by
    obtain ⟨a, b, c⟩ := good_step h (hT x List.mem_cons_self) g hw
    obtain ⟨d, e, f⟩ := good_fold h (T := T) (fun y m => hT y (List.mem_cons_of_mem _ m)) a b
    rw [List.foldl_cons]
    exact ⟨d, e, fun k => Int.le_trans (c k) (f k)⟩
theorem good_foldp {row : List Pl} (h : IsRow row) {T : List Pl} {s : (K3 → Int) × Int} (hT : ∀ x ∈ T, x ∈ row) (g : Good row s.1) (hw : 0 ≤ s.2) :
    Good row (T.foldl stepK s).1 ∧ 0 ≤ (T.foldl stepK s).2 ∧ ∀ k, s.1 k ≤ (T.foldl stepK s).1 k := good_fold h hT g hw
theorem step_zero {row : List Pl} {u : K3 → Int} {x : Pl} (m : x ∈ row) (g : Good row u) : stepK (u, 0) x = (u, 0) := by
  have b := g.hi x m
  have e : min 0 (x.p - u x.k) = 0 := by omega
  unfold stepK
  dsimp only
  rw [e, upd_self (by omega)]
  rfl
theorem fold_zero {row : List Pl} {u : K3 → Int} (g : Good row u) : ∀ {T : List Pl}, (∀ x ∈ T, x ∈ row) → T.foldl stepK (u, 0) = (u, 0)
  | [], _ => rfl
  | x :: T, hT => by
    rw [List.foldl_cons, step_zero (hT x List.mem_cons_self) g]
    exact fold_zero g fun y m => hT y (List.mem_cons_of_mem _ m)
theorem step_full {u : K3 → Int} {x : Pl} {w : Int} (e : u x.k = x.p) (hw : 0 ≤ w) : stepK (u, w) x = (u, w) := by
  have e : min w (x.p - u x.k) = 0 := by omega
  unfold stepK
  dsimp only
  rw [e, upd_self (by omega), Int.sub_zero]
theorem fold_full {row : List Pl} (h : IsRow row) : ∀ {T : List Pl} {u : K3 → Int} {w : Int}, (∀ x ∈ T, x ∈ row) → Good row u → 0 ≤ w → 0 < (T.foldl stepK (u, w)).2 → ∀ x ∈ T, (T.foldl stepK (u, w)).1 x.k = x.p
  | y :: T, u, w, hT, g, hw, hs, x, mx => by
    have my := hT y List.mem_cons_self
    have hT' : ∀ x ∈ T, x ∈ row := fun x m => hT x (List.mem_cons_of_mem _ m)
    obtain ⟨a, b, c⟩ := good_step h my g hw
    rw [List.foldl_cons] at hs ⊢
    obtain ⟨d, e, f⟩ := good_foldp h hT' a b
    rcases List.mem_cons.mp mx with rfl | mx
    · have z : 0 < (stepK (u, w) x).2 := by
        rcases Int.lt_or_eq_of_le b with z | z
        · exact z
        · rw [show stepK (u, w) x = ((stepK (u, w) x).1, 0) from by rw [z], fold_zero a hT'] at hs
          exact absurd hs (Int.lt_irrefl 0)
      have q : (stepK (u, w) x).1 x.k = x.p := by
        unfold stepK at z ⊢
        dsimp only at z ⊢
        rw [updK_at]
        omega
      have := f x.k
      have := d.hi x my
      rw [q] at *
      omega
    · exact fold_full h hT' a b hs x mx
theorem fold_comp {row : List Pl} (h : IsRow row) : ∀ {T : List Pl} {u : K3 → Int} {v w : Int}, (∀ x ∈ T, x ∈ row) → Good row u → 0 ≤ v → 0 ≤ w → (T.foldl stepK ((T.foldl stepK (u, v)).1, w)).1 = (T.foldl stepK (u, v + w)).1
  | [], u, v, w, _, _, _, _ => rfl
  | x :: T, u, v, w, hT, g, hv, hw => by
    have mx := hT x List.mem_cons_self
    have hT' : ∀ x ∈ T, x ∈ row := fun x m => hT x (List.mem_cons_of_mem _ m)
    obtain ⟨a, b, c⟩ := good_step h mx g hv
    have lo := g.lo x.k
    have hi := g.hi x mx
    rw [List.foldl_cons, List.foldl_cons, List.foldl_cons]
    by_cases q : v ≤ x.p - u x.k
    · have e : stepK (u, v) x = (updK u x.k (u x.k + v), 0) := by
        unfold stepK
        dsimp only
        rw [Int.min_eq_left q, Int.sub_self]
      rw [e] at a ⊢
      rw [fold_zero a hT']
      have e2 : stepK (updK u x.k (u x.k + v), w) x = stepK (u, v + w) x := by
        unfold stepK
        dsimp only
        rw [updK_at]
        have m1 : min (v + w) (x.p - u x.k) = v + min w (x.p - (u x.k + v)) := by omega
        rw [m1]
        refine Prod.ext ?_ (by dsimp only; omega)
        dsimp only
        funext j
        by_cases cj : j = x.k
        · rw [cj, updK_at, updK_at]; omega
        · rw [updK_ne cj, updK_ne cj, updK_ne cj]
      rw [e2]
    · have e : ∀ v' : Int, x.p - u x.k ≤ v' → stepK (u, v') x = (updK u x.k x.p, v' - (x.p - u x.k)) := fun v' q' => by
        unfold stepK
        dsimp only
        rw [Int.min_eq_right q', show u x.k + (x.p - u x.k) = x.p by omega]
      rw [e v (by omega), e (v + w) (by omega)]
      rw [e v (by omega)] at a b
      obtain ⟨d, e', f⟩ := good_foldp h hT' a b
      have full : (T.foldl stepK (updK u x.k x.p, v - (x.p - u x.k))).1 x.k = x.p := by
        have := f x.k
        have := d.hi x mx
        dsimp only at *
        rw [updK_at] at *
        omega
      rw [step_full full hw, fold_comp h hT' a b hw]
      congr 2
      refine Prod.ext rfl ?_
      dsimp only
      omega
theorem fold_keep : ∀ {T : List Pl} {u : K3 → Int} {w : Int} {k : K3}, (∀ x ∈ T, x.k ≠ k) → (T.foldl stepK (u, w)).1 k = u k
  | [], _, _, _, _ => rfl
  | x :: T, u, w, k, h => by
    rw [List.foldl_cons, show stepK (u, w) x = ((stepK (u, w) x).1, (stepK (u, w) x).2) from rfl, fold_keep fun y m => h y (List.mem_cons_of_mem _ m)]
    exact updK_ne fun e => h x List.mem_cons_self e.symm
def sumK (row : List Pl) (u : K3 → Int) : Int := (row.map fun x => u x.k).sum
theorem sumK_same {u : K3 → Int} {k : K3} {v : Int} : ∀ {row : List Pl}, (∀ y ∈ row, y.k ≠ k) → sumK row (updK u k v) = sumK row u
  | [], _ => rfl
  | y :: row, h => by
    have := sumK_same (u := u) (k := k) (v := v) (row := row) fun z m => h z (List.mem_cons_of_mem _ m)
    unfold sumK at this ⊢
    rw [List.map_cons, List.map_cons, List.sum_cons, List.sum_cons, this, updK_ne (h y List.mem_cons_self)]
theorem sumK_upd {u : K3 → Int} {v : Int} {x : Pl} : ∀ {row : List Pl}, IsRow row → x ∈ row → sumK row (updK u x.k v) = sumK row u + (v - u x.k)
  | y :: row, h, m => by
    obtain ⟨a, b⟩ := List.pairwise_cons.mp h
    have e : ∀ u : K3 → Int, sumK (y :: row) u = u y.k + sumK row u := fun u => by unfold sumK; rw [List.map_cons, List.sum_cons]
    rw [e, e]
    rcases List.mem_cons.mp m with rfl | m
    · rw [updK_at, sumK_same fun z mz e => K3.ne (a z mz) e.symm]; omega
    · rw [updK_ne (K3.ne (a x m)), sumK_upd b m]; omega
theorem fold_sum {row : List Pl} (h : IsRow row) : ∀ {T : List Pl} {u : K3 → Int} {w : Int}, (∀ x ∈ T, x ∈ row) → (T.foldl stepK (u, w)).2 + sumK row (T.foldl stepK (u, w)).1 = w + sumK row u
  | [], _, _, _ => rfl
  | x :: T, u, w, hT => by
    have e : (stepK (u, w) x).2 + sumK row (stepK (u, w) x).1 = w + sumK row u := by
      unfold stepK
      dsimp only
      rw [sumK_upd h (hT x List.mem_cons_self)]
      omega
    rw [List.foldl_cons, show stepK (u, w) x = ((stepK (u, w) x).1, (stepK (u, w) x).2) from rfl, fold_sum h fun y m => hT y (List.mem_cons_of_mem _ m), e]
def less (t : K3 → Int) (x : Pl) : Pl := ⟨x.b, x.s, x.m, x.p - t x.k⟩
theorem less_k {t : K3 → Int} {x : Pl} : (less t x).k = x.k := rfl
theorem lf_eq {row : List Pl} {t : K3 → Int} : lf row t = (row.filter fun x => decide (t x.k < x.p)).map (less t) := rfl
theorem fold_over {R : List Pl} {t : K3 → Int} (g : Good R t) : ∀ {T : List Pl} {s : K3 → Int} {w : Int}, (∀ x ∈ T, x ∈ R) → (∀ k, 0 ≤ s k) → (∀ x ∈ R, t x.k + s x.k ≤ x.p) → IsRow R → 0 ≤ w →
    (T.foldl stepK ((fun k => t k + s k), w)).1 = fun k => t k + ((((T.filter fun x => decide (t x.k < x.p)).map (less t)).foldl stepK (s, w)).1 k)
  | [], s, w, _, _, _, _, _ => rfl
  | x :: T, s, w, hT, h0, h1, h, hw => by
    have mx := hT x List.mem_cons_self
    have hT' : ∀ x ∈ T, x ∈ R := fun x m => hT x (List.mem_cons_of_mem _ m)
    have a := h1 x mx
    have b := h0 x.k
    rw [List.foldl_cons]
    by_cases c : t x.k < x.p
    · rw [List.filter_cons, if_pos (by simpa using c), List.map_cons, List.foldl_cons]
      have e : stepK ((fun k => t k + s k), w) x = ((fun k => t k + (stepK (s, w) (less t x)).1 k), (stepK (s, w) (less t x)).2) := by
        have p : (less t x).p = x.p - t x.k := rfl
        unfold stepK
        dsimp only
        rw [less_k, p, show x.p - t x.k - s x.k = x.p - (t x.k + s x.k) by omega]
        refine Prod.ext ?_ rfl
        dsimp only
        funext j
        by_cases cj : j = x.k
        · rw [cj, updK_at, updK_at]; omega
        · rw [updK_ne cj, updK_ne cj]
      rw [e]
      have p : (less t x).p = x.p - t x.k := rfl
      refine fold_over g hT' (fun k => ?_) (fun y my => ?_) h ?_
      · unfold stepK
        dsimp only
        by_cases cj : k = (less t x).k
        · rw [cj, updK_at, less_k, p]; omega
        · rw [updK_ne cj]; exact h0 k
      · unfold stepK
        dsimp only
        by_cases cj : y.k = x.k
        · have := row_keys h my mx cj
          subst this
          rw [less_k, updK_at, p]; omega
        · rw [less_k, updK_ne cj]; exact h1 y my
      · unfold stepK
        dsimp only
        rw [less_k, p]; omega
    · rw [List.filter_cons, if_neg (by simpa using c)]
      have hi := g.hi x mx
      rw [step_full (show t x.k + s x.k = x.p by omega) hw]
      exact fold_over g hT' h0 h1 h hw
theorem cnd_less {own : Bool} {nm : Option Str} {t : K3 → Int} {x : Pl} : cnd own nm (less t x) = cnd own nm x := by cases nm <;> rfl
theorem lf_filter {row : List Pl} {own : Bool} {nm : Option Str} {t : K3 → Int} : (lf row t).filter (cnd own nm) = ((row.filter (cnd own nm)).filter fun x => decide (t x.k < x.p)).map (less t) := by
  rw [lf_eq, List.filter_map, List.filter_filter, List.filter_filter]
  congr 1
  refine List.filter_congr fun x _ => ?_
  rw [Function.comp_apply, cnd_less, Bool.and_comm]
theorem turnsP_lf {row : List Pl} {own : Bool} {fs : List Str} {t : K3 → Int} : turnsP (lf row t) own fs = ((turnsP row own fs).filter fun x => decide (t x.k < x.p)).map (less t) := by
  unfold turnsP
  rw [List.filter_append, List.map_append, lf_filter]
  congr 1
  induction fs with
  | nil => rfl
  | cons z fs ih => rw [List.flatMap_cons, List.flatMap_cons, List.filter_append, List.map_append, ih, lf_filter]
theorem turnsP_sub {row : List Pl} {own : Bool} {fs : List Str} : ∀ x ∈ turnsP row own fs, x ∈ row := fun x m => by
  rcases List.mem_append.mp m with m | m
  · obtain ⟨z, _, m⟩ := List.mem_flatMap.mp m
    exact (List.mem_filter.mp m).1
  · exact (List.mem_filter.mp m).1
theorem D1_good {row : List Pl} (h : IsRow row) (hp : ∀ x ∈ row, 1 ≤ x.p) {own : Bool} {fs : List Str} {w : Int} (hw : 0 ≤ w) : Good row (D1 row own fs w) := (good_fold h turnsP_sub (good0 hp) hw).1
theorem lf_row {row : List Pl} (h : IsRow row) {t : K3 → Int} : IsRow (lf row t) := by
  rw [lf_eq]
  exact List.Pairwise.map _ (fun _ _ q => q) (isRow_filter h)
theorem tk_row {row : List Pl} (h : IsRow row) {t : K3 → Int} : IsRow (tk row t) := by
  unfold tk
  exact List.Pairwise.map _ (fun _ _ q => q) (isRow_filter h)
theorem lf_pos {row : List Pl} {t : K3 → Int} : ∀ x ∈ lf row t, 1 ≤ x.p := fun x m => by
  rw [lf_eq] at m
  obtain ⟨y, my, rfl⟩ := List.mem_map.mp m
  have := of_decide_eq_true (List.mem_filter.mp my).2
  show 1 ≤ y.p - t y.k
  omega
theorem D1_add {row : List Pl} (h : IsRow row) (hp : ∀ x ∈ row, 1 ≤ x.p) {own : Bool} {fs : List Str} {v w : Int} (hv : 0 ≤ v) (hw : 0 ≤ w) :
    D1 row own fs (v + w) = fun k => D1 row own fs v k + D1 (lf row (D1 row own fs v)) own fs w k := by
  have g := D1_good h hp (own := own) (fs := fs) hv
  have c := fold_comp h (T := turnsP row own fs) (u := fun _ => 0) (v := v) (w := w) turnsP_sub (good0 hp) hv hw
  have o := fold_over g (T := turnsP row own fs) (s := fun _ => 0) (w := w) turnsP_sub (fun _ => Int.le_refl 0) (fun x m => by have := g.hi x m; omega) h hw
  unfold D1 at g o ⊢
  rw [turnsP_lf]
  rw [← o, ← c]
  simp only [Int.add_zero]
theorem lf_lf {row : List Pl} {t s : K3 → Int} (h0 : ∀ k, 0 ≤ s k) : lf (lf row t) s = lf row fun k => t k + s k := by
  rw [lf_eq, lf_eq, lf_eq, List.filter_map, List.filter_filter, List.map_map]
  have : (row.filter fun x => (fun x => decide (s x.k < x.p)) (less t x) && decide (t x.k < x.p)) = row.filter fun x => decide (t x.k + s x.k < x.p) := by
    refine List.filter_congr fun x _ => ?_
    have := h0 x.k
    have p : (less t x).p = x.p - t x.k := rfl
    dsimp only
    rw [less_k, p, ← Bool.decide_and]
    refine decide_eq_decide.mpr ?_
    omega
  refine (congrArg (List.map _) this).trans (List.map_congr_left fun x _ => ?_)
  show (⟨x.b, x.s, x.m, x.p - t x.k - s x.k⟩ : Pl) = ⟨x.b, x.s, x.m, x.p - (t x.k + s x.k)⟩
  rw [show x.p - t x.k - s x.k = x.p - (t x.k + s x.k) by omega]

/-! what each step of the bits keeps -/
theorem mem_tk {row : List Pl} {u : K3 → Int} {k : K3} : (∃ x ∈ tk row u, x.k = k) ↔ (∃ x ∈ row, x.k = k) ∧ 0 < u k := by
  unfold tk
  constructor
  · rintro ⟨x, m, e⟩
    obtain ⟨y, my, rfl⟩ := List.mem_map.mp m
    obtain ⟨a, b⟩ := List.mem_filter.mp my
    have : y.k = k := e
    exact ⟨⟨y, a, this⟩, by rw [← this]; exact of_decide_eq_true b⟩
  · rintro ⟨⟨y, my, e⟩, h⟩
    exact ⟨⟨y.b, y.s, y.m, u y.k⟩, List.mem_map.mpr ⟨y, List.mem_filter.mpr ⟨my, by rw [e]; exact decide_eq_true h⟩, rfl⟩, e⟩
theorem tk_tot {row : List Pl} (h : IsRow row) {u : K3 → Int} (g : Good row u) (k : K3) : totP (tk row u) k = u k := by
  by_cases c : ∃ x ∈ tk row u, x.k = k
  · obtain ⟨x, m, e⟩ := c
    have := row_tot (tk_row h) m
    rw [← e, this]
    unfold tk at m
    obtain ⟨y, _, rfl⟩ := List.mem_map.mp m
    rfl
  · rw [tot_not fun x m e => c ⟨x, m, e⟩]
    by_cases d : ∃ x ∈ row, x.k = k
    · have : ¬ 0 < u k := fun q => c (mem_tk.mpr ⟨d, q⟩)
      have := g.lo k
      omega
    · exact (g.ou k fun x m e => d ⟨x, m, e⟩).symm
theorem mem_lf {row : List Pl} (h : IsRow row) {u : K3 → Int} {k : K3} {y : Pl} (m : y ∈ row) (e : y.k = k) : (∃ x ∈ lf row u, x.k = k) ↔ u k < y.p := by
  rw [lf_eq]
  constructor
  · rintro ⟨x, mx, ex⟩
    obtain ⟨z, mz, rfl⟩ := List.mem_map.mp mx
    obtain ⟨a, b⟩ := List.mem_filter.mp mz
    have ez : z.k = k := ex
    have := row_keys h a m (ez.trans e.symm)
    subst this
    rw [← e]
    exact of_decide_eq_true b
  · intro q
    exact ⟨less u y, List.mem_map.mpr ⟨y, List.mem_filter.mpr ⟨m, by rw [e]; exact decide_eq_true q⟩, rfl⟩, e⟩
theorem lf_tot {row : List Pl} (h : IsRow row) {u : K3 → Int} (g : Good row u) {y : Pl} (m : y ∈ row) : totP (lf row u) y.k = y.p - u y.k := by
  have hi := g.hi y m
  by_cases c : u y.k < y.p
  · have : less u y ∈ lf row u := List.mem_map.mpr ⟨y, List.mem_filter.mpr ⟨m, decide_eq_true c⟩, rfl⟩
    exact row_tot (lf_row h) this
  · rw [tot_not fun x mx e => c ((mem_lf h m rfl).mp ⟨x, mx, e⟩)]
    omega
theorem lf_none {row : List Pl} {u : K3 → Int} {k : K3} (h : ∀ x ∈ row, x.k ≠ k) : ∀ x ∈ lf row u, x.k ≠ k := fun x m => by
  rw [lf_eq] at m
  obtain ⟨z, mz, rfl⟩ := List.mem_map.mp m
  exact h z (List.mem_filter.mp mz).1
/-- what is left and what is taken, laid together -/
theorem back_row {row : List Pl} (h : IsRow row) (hp : ∀ x ∈ row, 1 ≤ x.p) {u : K3 → Int} (g : Good row u) : laidF (lf row u ++ tk row u) = row := by
  refine (laid_uniq h (fun k => ?_) fun k => ?_).symm
  · constructor
    · rintro ⟨y, m, e⟩
      have a := hp y m
      by_cases c : u k < y.p
      · obtain ⟨x, mx, ex⟩ := (mem_lf h m e).mpr c
        exact ⟨x, List.mem_append_left _ mx, ex⟩
      · obtain ⟨x, mx, ex⟩ := mem_tk.mpr ⟨⟨y, m, e⟩, (show 0 < u k by omega)⟩
        exact ⟨x, List.mem_append_right _ mx, ex⟩
    · rintro ⟨x, m, e⟩
      rcases List.mem_append.mp m with m | m
      · rw [lf_eq] at m
        obtain ⟨z, mz, rfl⟩ := List.mem_map.mp m
        exact ⟨z, (List.mem_filter.mp mz).1, e⟩
      · exact (mem_tk.mp ⟨x, m, e⟩).1
  · rw [tot_app, tk_tot h g]
    by_cases d : ∃ x ∈ row, x.k = k
    · obtain ⟨y, m, rfl⟩ := d
      rw [row_tot h m, lf_tot h g m]; omega
    · have d' : ∀ x ∈ row, x.k ≠ k := fun x m e => d ⟨x, m, e⟩
      rw [tot_not d', tot_not (lf_none d'), g.ou k d']; rfl
/-- what was taken, and what is taken of the rest, laid together -/
theorem gone_add {row : List Pl} (h : IsRow row) {t s : K3 → Int} (g : Good row t) (gs : Good (lf row t) s) (gt : Good row fun k => t k + s k) : laidF (tk row t ++ tk (lf row t) s) = tk row fun k => t k + s k := by
  refine (laid_uniq (tk_row h) (fun k => ?_) fun k => ?_).symm
  · have a := g.lo k
    have b := gs.lo k
    constructor
    · intro q
      obtain ⟨c, d⟩ := mem_tk.mp q
      by_cases e : 0 < t k
      · obtain ⟨x, mx, ex⟩ := mem_tk.mpr ⟨c, e⟩
        exact ⟨x, List.mem_append_left _ mx, ex⟩
      · have sk : 0 < s k := by omega
        have : ∃ x ∈ lf row t, x.k = k := Classical.byContradiction fun z => by
          have := gs.ou k fun x m e => z ⟨x, m, e⟩
          omega
        obtain ⟨x, mx, ex⟩ := mem_tk.mpr ⟨this, sk⟩
        exact ⟨x, List.mem_append_right _ mx, ex⟩
    · rintro ⟨x, m, e⟩
      rcases List.mem_append.mp m with m | m
      · obtain ⟨c, d⟩ := mem_tk.mp ⟨x, m, e⟩
        exact mem_tk.mpr ⟨c, by omega⟩
      · obtain ⟨⟨z, mz, ez⟩, d⟩ := mem_tk.mp ⟨x, m, e⟩
        rw [lf_eq] at mz
        obtain ⟨y, my, rfl⟩ := List.mem_map.mp mz
        exact mem_tk.mpr ⟨⟨y, (List.mem_filter.mp my).1, ez⟩, by omega⟩
  · rw [tot_app, tk_tot h g, tk_tot (lf_row h) gs, tk_tot h gt]
theorem lf_zero {row : List Pl} (hp : ∀ x ∈ row, 1 ≤ x.p) : lf row (fun _ => 0) = row := by
  unfold lf
  rw [List.filter_eq_self.mpr fun x m => decide_eq_true (by have := hp x m; show (0 : Int) < x.p; omega)]
  refine (List.map_congr_left fun x _ => ?_).trans (List.map_id _)
  show (⟨x.b, x.s, x.m, x.p - 0⟩ : Pl) = x
  rw [Int.sub_zero]
theorem tk_zero {row : List Pl} : tk row (fun _ => 0) = [] := by
  unfold tk
  rw [List.filter_eq_nil_iff.mpr fun x _ => by simp]; rfl
theorem D1_zero {row : List Pl} (hp : ∀ x ∈ row, 1 ≤ x.p) {own : Bool} {fs : List Str} : D1 row own fs 0 = fun _ => 0 := by
  unfold D1
  rw [fold_zero (good0 hp) turnsP_sub]
/-! how many are taken -/
theorem tk_sum {row : List Pl} {u : K3 → Int} (h0 : ∀ k, 0 ≤ u k) : ((tk row u).map (·.p)).sum = sumK row u := by
  unfold tk sumK
  rw [List.map_map]
  induction row with
  | nil => rfl
  | cons x row ih =>
    have := h0 x.k
    rw [List.filter_cons, List.map_cons (l := row), List.sum_cons]
    by_cases c : 0 < u x.k
    · rw [if_pos (decide_eq_true c), List.map_cons, List.sum_cons, ih]; rfl
    · rw [if_neg (by simpa using c), ih]; omega
theorem sumK_le {u v : K3 → Int} : ∀ {row : List Pl}, (∀ x ∈ row, u x.k ≤ v x.k) → sumK row u ≤ sumK row v
  | [], _ => Int.le_refl _
  | x :: row, h => by
    have := sumK_le (u := u) (v := v) (row := row) fun y m => h y (List.mem_cons_of_mem _ m)
    have := h x List.mem_cons_self
    unfold sumK at *
    rw [List.map_cons, List.map_cons, List.sum_cons, List.sum_cons]; omega
def mayS (row : List Pl) (own : Bool) : Int := ((row.filter (may own)).map (·.p)).sum
theorem may_sum {u : K3 → Int} {own : Bool} : ∀ {row : List Pl}, (∀ x ∈ row, may own x = false → u x.k = 0) → (∀ x ∈ row, u x.k ≤ x.p) →
    sumK row u ≤ mayS row own ∧ ((∀ x ∈ row, may own x = true → u x.k = x.p) → sumK row u = mayS row own)
  | [], _, _ => ⟨Int.le_refl _, fun _ => rfl⟩
  | x :: row, h, g => by
    obtain ⟨a, b⟩ := may_sum (u := u) (own := own) (row := row) (fun y m => h y (List.mem_cons_of_mem _ m)) fun y m => g y (List.mem_cons_of_mem _ m)
    have hx := h x List.mem_cons_self
    have gx := g x List.mem_cons_self
    unfold sumK mayS at *
    rw [List.map_cons, List.sum_cons, List.filter_cons]
    cases c : may own x with
    | true =>
      rw [if_pos rfl, List.map_cons, List.sum_cons]
      exact ⟨by omega, fun q => by have := q x List.mem_cons_self c; have := b fun y m => q y (List.mem_cons_of_mem _ m); omega⟩
    | false =>
      rw [if_neg Bool.false_ne_true]
      have := hx c
      exact ⟨by omega, fun q => by have := b fun y m => q y (List.mem_cons_of_mem _ m); omega⟩
theorem turnsP_may {row : List Pl} {own : Bool} {fs : List Str} : ∀ x ∈ turnsP row own fs, may own x = true := fun x m => by
  rcases List.mem_append.mp m with m | m
  · obtain ⟨z, _, m⟩ := List.mem_flatMap.mp m
    have := (List.mem_filter.mp m).2
    unfold cnd at this
    exact (Bool.and_eq_true_iff.mp this).1
  · exact (List.mem_filter.mp m).2
theorem D1_not {row : List Pl} (h : IsRow row) {own : Bool} {fs : List Str} {w : Int} : ∀ x ∈ row, may own x = false → D1 row own fs w x.k = 0 := fun x m c => by
  unfold D1
  rw [fold_keep fun y my e => by
    have := row_keys h (turnsP_sub y my) m e
    subst this
    rw [turnsP_may y my] at c
    cases c]
theorem D1_sum {row : List Pl} (h : IsRow row) (hp : ∀ x ∈ row, 1 ≤ x.p) {own : Bool} {fs : List Str} {w : Int} (hw : 0 ≤ w) : ((tk row (D1 row own fs w)).map (·.p)).sum = min w (mayS row own) := by
  have g := D1_good h hp (own := own) (fs := fs) hw
  rw [tk_sum g.lo]
  obtain ⟨a, b⟩ := may_sum (own := own) (D1_not h (own := own) (fs := fs) (w := w)) g.hi
  have s := fold_sum h (T := turnsP row own fs) (u := fun _ => 0) (w := w) turnsP_sub
  have z : sumK row (fun _ => 0) = 0 := by
    unfold sumK
    clear s a b g hp h
    induction row with
    | nil => rfl
    | cons x row ih => rw [List.map_cons, List.sum_cons, ih]; rfl
  rw [z] at s
  have n := (good_fold h (T := turnsP row own fs) (u := fun _ => 0) (w := w) turnsP_sub (good0 hp) hw).2.1
  rw [show ((turnsP row own fs).foldl stepK (fun _ => 0, w)).1 = D1 row own fs w from rfl] at s
  by_cases c : 0 < ((turnsP row own fs).foldl stepK (fun _ => 0, w)).2
  · have f := fold_full h turnsP_sub (good0 hp) hw c
    have := b fun x m q => f x (List.mem_append_right _ (List.mem_filter.mpr ⟨m, q⟩))
    omega
  · omega
/-! names first -/
theorem D1_first {row : List Pl} (h : IsRow row) (hp : ∀ x ∈ row, 1 ≤ x.p) {own : Bool} {fs : List Str} {w : Int} (hw : 0 ≤ w) {k : Nat} {z : Str} (hk : fs[k]? = some z)
    {x y : Pl} (mx : x ∈ row) (ex : x.s = z) (cx : may own x = true) (lx : D1 row own fs w x.k < x.p) (my : y ∈ row) (ly : 0 < D1 row own fs w y.k) : y.s ∈ fs.take (k + 1) := by
  have e : turnsP row own fs = ((fs.take (k + 1)).flatMap fun z => row.filter (cnd own (some z))) ++ turnsP row own (fs.drop (k + 1)) := by
    unfold turnsP
    rw [← List.append_assoc, ← List.flatMap_append, List.take_append_drop]
  have s1 : ∀ y ∈ ((fs.take (k + 1)).flatMap fun z => row.filter (cnd own (some z))), y ∈ row ∧ y.s ∈ fs.take (k + 1) := fun y m => by
    obtain ⟨z, mz, m⟩ := List.mem_flatMap.mp m
    obtain ⟨a, b⟩ := List.mem_filter.mp m
    unfold cnd at b
    have := of_decide_eq_true (Bool.and_eq_true_iff.mp b).2
    exact ⟨a, by rw [this]; exact mz⟩
  have sx : x ∈ ((fs.take (k + 1)).flatMap fun z => row.filter (cnd own (some z))) := by
    have hl : k < fs.length := by
      rcases Nat.lt_or_ge k fs.length with q | q
      · exact q
      · rw [List.getElem?_eq_none q] at hk; cases hk
    refine List.mem_flatMap.mpr ⟨z, ?_, List.mem_filter.mpr ⟨mx, ?_⟩⟩
    · have : fs[k] = z := by rw [List.getElem?_eq_getElem hl] at hk; exact Option.some.inj hk
      rw [← this]
      exact List.mem_take_iff_getElem.mpr ⟨k, by omega, rfl⟩
    · show (may own x && decide (x.s = z)) = true
      rw [cx, ex]; simp
  unfold D1 at lx ly
  rw [e] at lx ly
  generalize ((fs.take (k + 1)).flatMap fun z => row.filter (cnd own (some z))) = T at s1 sx lx ly
  rw [List.foldl_append] at lx ly
  obtain ⟨a, b, c⟩ := good_fold h (T := T) (fun y m => (s1 y m).1) (good0 hp) hw
  by_cases q : 0 < (T.foldl stepK (fun _ => 0, w)).2
  · have f := fold_full h (fun y m => (s1 y m).1) (good0 hp) hw q x sx
    have := (good_foldp h (T := turnsP row own (fs.drop (k + 1))) (s := T.foldl stepK (fun _ => 0, w)) turnsP_sub a b).2.2 x.k
    omega
  · have q0 : (T.foldl stepK (fun _ => 0, w)).2 = 0 := by omega
    rw [show T.foldl stepK (fun _ => 0, w) = ((T.foldl stepK (fun _ => 0, w)).1, 0) from Prod.ext rfl q0, fold_zero a turnsP_sub] at ly
    refine Classical.byContradiction fun ny => ?_
    have : (T.foldl stepK (fun _ => 0, w)).1 y.k = 0 := fold_keep fun v mv ev => by
      obtain ⟨d, d2⟩ := s1 v mv
      have := row_keys h d my ev
      subst this
      exact ny d2
    dsimp only at ly
    omega

/-! the law's look at a step -/
theorem row_any {row ps : List Pl} (hl : row.length + ps.length ≤ 900) : e_x_law_row.fn [.lst (row.map Pl.d), .lst (ps.map Pl.d)] = .ok (.v (.lst ((ps.foldl putF row).map Pl.d))) := by
  obtain ⟨y', e⟩ := row_go (a1 := some (.v (.lst (ps.map Pl.d)))) (ps := ps) (row := row) (y := none) hl
  simp only [e_x_law_row, runD, m_x_law_row, sl0]
  simp at e
  simp [e]
theorem rowF_row {row : List Pl} (h : IsRow row) (ps : List Pl) : ps.foldl putF row = laidF (row ++ ps) := by
  have := rowF_eq ps (xs := row)
  rwa [laid_self h] at this
theorem tk_len (row : List Pl) (t : K3 → Int) : (tk row t).length ≤ row.length := by
  unfold tk; rw [List.length_map]; exact List.length_filter_le _ _
theorem lf_len (row : List Pl) (t : K3 → Int) : (lf row t).length ≤ row.length := by
  unfold lf; rw [List.length_map]; exact List.length_filter_le _ _
theorem sum_ps (row : List Pl) : fSum [.lst ((row.map (·.p)).map D.int)] = some (.int (row.map (·.p)).sum) := by
  unfold fSum
  simp only [ints_map]
  rfl
theorem all_lc {L : Sl} {L' : Pl → Sl} {el : Sl → R D} {j : Nat} {row : List Pl} (h : ∀ x : Pl, put j x.d L = some (L' x) ∧ el (L' x) = .ok (.int x.p)) : lcGo (put j) mYes el L (row.map Pl.d) = .ok ((row.map (·.p)).map .int) := by
  rw [List.map_map]
  exact lcGo_map fun x _ => ⟨_, (h x).1, (h x).2⟩
theorem may_lc15 {row : List Pl} {own : Bool} {a0 a1 a2 a3 a4 : D} : lcGo (put 7) (mOr (mB (m2 fEq (m2 fIx (mVar 7) (mC (.int 2))) (mC (.str "")))) (mNot (mB (mVar 5)))) l_x_law_step_right_0 [some (.v a0), some (.v a1), some (.v a2), some (.v a3), some (.v a4), some (.v (.bl own)), none, none, none, none, none, none] (row.map Pl.d) = .ok (((row.filter fun x => may own x).map (·.p)).map .int) := by
  rw [List.map_map]
  refine lcGo_filter fun x _ => ⟨[some (.v a0), some (.v a1), some (.v a2), some (.v a3), some (.v a4), some (.v (.bl own)), none, some (.v x.d), none, none, none, none], rfl, ?_, fun _ => ?_⟩
  · by_cases c : x.m = ("" : Str) <;> cases own <;> (unfold Pl.d may; simp [c])
  · have h3 := ixP3 (x := x)
    generalize x.d = xd at h3
    simp [l_x_law_step_right_0, h3]
theorem mark_lc {row : List Pl} {a0 a1 a2 a3 a4 a5 a6 : D} : lcGo (put 7) (mB (m2 fNe (m2 fIx (mVar 7) (mC (.int 2))) (mC (.str "")))) l_x_law_step_right_2 [some (.v a0), some (.v a1), some (.v a2), some (.v a3), some (.v a4), some (.v a5), some (.v a6), none, none, none, none, none] (row.map Pl.d) = .ok ((row.filter fun x => !decide (x.m = ("" : Str))).map Pl.d) := by
  refine lcGo_filter fun x _ => ⟨[some (.v a0), some (.v a1), some (.v a2), some (.v a3), some (.v a4), some (.v a5), some (.v a6), some (.v x.d), none, none, none, none], rfl, ?_, fun _ => ?_⟩
  · by_cases c : x.m = ("" : Str) <;> (unfold Pl.d; simp [c])
  · simp [l_x_law_step_right_2]
theorem over_lc {row : List Pl} {own : Bool} {a0 a1 a2 a3 a4 a6 a8 : D} {z : Str} {x10 x11 : Option D} : lcGo (put 7) (mAnd (mB (m2 fEq (m2 fIx (mVar 7) (mC (.int 1))) (mVar 9))) (mOr (mB (m2 fEq (m2 fIx (mVar 7) (mC (.int 2))) (mC (.str "")))) (mNot (mB (mVar 5))))) l_x_law_step_right_3 [some (.v a0), some (.v a1), some (.v a2), some (.v a3), some (.v a4), some (.v (.bl own)), some (.v a6), none, some (.v a8), some (.v (.str z)), x10.map .v, x11.map .v] (row.map Pl.d) = .ok ((row.filter fun x => decide (x.s = z) && may own x).map Pl.d) := by
  refine lcGo_filter fun x _ => ⟨[some (.v a0), some (.v a1), some (.v a2), some (.v a3), some (.v a4), some (.v (.bl own)), some (.v a6), some (.v x.d), some (.v a8), some (.v (.str z)), x10.map .v, x11.map .v], rfl, ?_, fun _ => ?_⟩
  · by_cases c : x.m = ("" : Str) <;> by_cases d : x.s = z <;> cases own <;> (unfold Pl.d may; simp [c, d])
  · simp [l_x_law_step_right_3]
theorem behind_lc {row : List Pl} {own : Bool} {fs : List Str} {a0 a1 a2 a3 a6 a9 a10 : D} {k : Nat} {x11 : Option D} (hk : k < fs.length) : lcGo (put 7) (mB (m2 fNin (m2 fIx (mVar 7) (mC (.int 1))) (mSl (mVar 4) mNoP (mP (m2 fAdd (mVar 8) (mC (.int 1))))))) l_x_law_step_right_4 [some (.v a0), some (.v a1), some (.v a2), some (.v a3), some (.v (.lst (fs.map .str))), some (.v (.bl own)), some (.v a6), none, some (.v (.int (k : Int))), some (.v a9), some (.v a10), x11.map .v] (row.map Pl.d) = .ok ((row.filter fun x => !decide (x.s ∈ fs.take (k + 1))).map Pl.d) := by
  have c1 : cut (fs.map D.str) none (some ((k : Int) + 1)) = (fs.take (k + 1)).map .str := by rw [show (k : Int) + 1 = ((k + 1 : Nat) : Int) by omega, cut_pre_l (by rw [List.length_map]; omega), List.map_take]
  refine lcGo_filter fun x _ => ⟨[some (.v a0), some (.v a1), some (.v a2), some (.v a3), some (.v (.lst (fs.map .str))), some (.v (.bl own)), some (.v a6), some (.v x.d), some (.v (.int (k : Int))), some (.v a9), some (.v a10), x11.map .v], rfl, ?_, fun _ => ?_⟩
  · have i1 := ixP1 (x := x)
    have nn := fNin_strs (q := x.s) (zs := fs.take (k + 1))
    generalize x.d = xd at i1
    generalize fs.map D.str = fd at c1
    generalize (fs.take (k + 1)).map D.str = gd at c1 nn
    simp [i1, c1, nn]
  · simp [l_x_law_step_right_4]

theorem first_go {row : List Pl} {own : Bool} {fs : List Str} {t : K3 → Int} {a0 a3 a6 : D}
    (hf : ∀ (k : Nat) (z : Str), fs[k]? = some z → ((lf row t).filter fun x => decide (x.s = z) && may own x) = [] ∨ ((tk row t).filter fun x => !decide (x.s ∈ fs.take (k + 1))) = []) (hr : row.length ≤ 100) :
    ∀ {zs : List Str} {i : Nat} {x8 x9 x10 x11 : Option D}, (∀ (j : Nat) (z : Str), zs[j]? = some z → fs[i + j]? = some z) → ∃ y8 y9 y10 y11 : Option D,
    forGo (putTup 2 (putCons (put 8) (putCons (put 9) putNil))) b_x_law_step_right_0 [some (.v a0), some (.v (.lst ((tk row t).map Pl.d))), some (.v (.lst ((lf row t).map Pl.d))), some (.v a3), some (.v (.lst (fs.map .str))), some (.v (.bl own)), some (.v a6), none, x8.map .v, x9.map .v, x10.map .v, x11.map .v] (nums i (zs.map .str)) =
      .next [some (.v a0), some (.v (.lst ((tk row t).map Pl.d))), some (.v (.lst ((lf row t).map Pl.d))), some (.v a3), some (.v (.lst (fs.map .str))), some (.v (.bl own)), some (.v a6), none, y8.map .v, y9.map .v, y10.map .v, y11.map .v]
  | [], i, x8, x9, x10, x11, _ => ⟨x8, x9, x10, x11, rfl⟩
  | z :: zs, i, x8, x9, x10, x11, h => by
    have hz : fs[i]? = some z := by have := h 0 z rfl; rwa [Nat.add_zero] at this
    have hi : i < fs.length := by
      rcases Nat.lt_or_ge i fs.length with q | q
      · exact q
      · rw [List.getElem?_eq_none q] at hz; cases hz
    have ho := hf i z hz
    have l1 := over_lc (row := lf row t) (own := own) (a0 := a0) (a1 := .lst ((tk row t).map Pl.d)) (a2 := .lst ((lf row t).map Pl.d)) (a3 := a3) (a4 := .lst (fs.map .str)) (a6 := a6) (a8 := .int (i : Int)) (z := z) (x10 := x10) (x11 := x11)
    have l2 := behind_lc (row := tk row t) (own := own) (fs := fs) (a0 := a0) (a1 := .lst ((tk row t).map Pl.d)) (a2 := .lst ((lf row t).map Pl.d)) (a3 := a3) (a6 := a6) (a9 := .str z) (a10 := .lst (((lf row t).filter fun x => decide (x.s = z) && may own x).map Pl.d)) (k := i) (x11 := x11) hi
    have n1 := (rows_pn ((lf row t).filter fun x => decide (x.s = z) && may own x)).ne (.lst (n := 2) (xs := []) fun _ m => nomatch m) (by omega)
    have n2 := (rows_pn ((tk row t).filter fun x => !decide (x.s ∈ fs.take (i + 1)))).ne (.lst (n := 2) (xs := []) fun _ m => nomatch m) (by omega)
    have tl := tk_len row t
    have ll := lf_len row t
    rw [← List.length_map (f := Pl.d)] at tl ll
    generalize ((lf row t).filter fun x => decide (x.s = z) && may own x) = A at ho l1 l2 n1
    generalize ((tk row t).filter fun x => !decide (x.s ∈ fs.take (i + 1))) = B at ho l2 n2
    obtain ⟨y8, y9, y10, y11, e⟩ := first_go (row := row) (own := own) (fs := fs) (t := t) (a0 := a0) (a3 := a3) (a6 := a6) hf hr (zs := zs) (i := i + 1) (x8 := some (.int (i : Int))) (x9 := some (.str z)) (x10 := some (.lst (A.map Pl.d))) (x11 := some (.lst (B.map Pl.d))) fun j y q => by
      have := h (j + 1) y q
      rwa [show i + 1 + j = i + (j + 1) by omega]
    refine ⟨y8, y9, y10, y11, ?_⟩
    rw [List.map_cons, nums_S, forGo_step (L1 := [some (.v a0), some (.v (.lst ((tk row t).map Pl.d))), some (.v (.lst ((lf row t).map Pl.d))), some (.v a3), some (.v (.lst (fs.map .str))), some (.v (.bl own)), some (.v a6), none, some (.v (.int (i : Int))), some (.v (.str z)), x10.map .v, x11.map .v]) (L2 := [some (.v a0), some (.v (.lst ((tk row t).map Pl.d))), some (.v (.lst ((lf row t).map Pl.d))), some (.v a3), some (.v (.lst (fs.map .str))), some (.v (.bl own)), some (.v a6), none, some (.v (.int (i : Int))), some (.v (.str z)), some (.v (.lst (A.map Pl.d))), some (.v (.lst (B.map Pl.d)))]) (by simp) ?_]
    · exact e
    · have ab : A.map Pl.d = [] ∨ B.map Pl.d = [] := by rcases ho with rfl | rfl <;> simp
      generalize A.map Pl.d = ad at *
      generalize B.map Pl.d = bd at *
      clear e hf h
      generalize (tk row t).map Pl.d = td at *
      generalize (lf row t).map Pl.d = ld at *
      generalize fs.map D.str = fd at *
      have c1 : ld.length ≤ 16777216 := by omega
      have c2 : td.length ≤ 16777216 := by omega
      rcases ab with rfl | rfl
      · simp [b_x_law_step_right_0, l1, l2, n1, n2, c1, c2]
      · by_cases q : ad = []
        · subst q; simp [b_x_law_step_right_0, l1, l2, n1, n2, c1, c2]
        · simp [b_x_law_step_right_0, l1, l2, n1, n2, c1, c2, q]
theorem step_right_ok {row : List Pl} {own : Bool} {fs : List Str} {w : Int} (h : IsRow row) (hp : ∀ x ∈ row, 1 ≤ x.p) (hw : 0 ≤ w) (hr : row.length ≤ 100) :
    e_x_law_step_right.fn [.lst (row.map Pl.d), .lst ((tk row (D1 row own fs w)).map Pl.d), .lst ((lf row (D1 row own fs w)).map Pl.d), .int w, .lst (fs.map .str), .bl own] = .ok (.v (.bl true)) := by
  have g := D1_good h hp (own := own) (fs := fs) hw
  have tl := tk_len row (D1 row own fs w)
  have ll := lf_len row (D1 row own fs w)
  have r1 := row_any (row := lf row (D1 row own fs w)) (ps := tk row (D1 row own fs w)) (by omega)
  rw [rowF_row (lf_row h), back_row h hp g] at r1
  have ns := (rows_pn row).ne_self (by omega)
  have l0 := may_lc15 (row := row) (own := own) (a0 := .lst (row.map Pl.d)) (a1 := .lst ((tk row (D1 row own fs w)).map Pl.d)) (a2 := .lst ((lf row (D1 row own fs w)).map Pl.d)) (a3 := .int w) (a4 := .lst (fs.map .str))
  have f0 := sum_ps (row.filter fun x => may own x)
  have f1 := sum_ps (tk row (D1 row own fs w))
  have sm := D1_sum h hp (own := own) (fs := fs) hw
  rw [sm] at f1
  unfold mayS at f1
  rw [show row.filter (may own) = row.filter (fun x => may own x) from rfl] at f1
  have l1 := all_lc (L := [some (.v (.lst (row.map Pl.d))), some (.v (.lst ((tk row (D1 row own fs w)).map Pl.d))), some (.v (.lst ((lf row (D1 row own fs w)).map Pl.d))), some (.v (.int w)), some (.v (.lst (fs.map .str))), some (.v (.bl own)), some (.v (.int ((row.filter fun x => may own x).map (·.p)).sum)), none, none, none, none, none]) (L' := fun x => [some (.v (.lst (row.map Pl.d))), some (.v (.lst ((tk row (D1 row own fs w)).map Pl.d))), some (.v (.lst ((lf row (D1 row own fs w)).map Pl.d))), some (.v (.int w)), some (.v (.lst (fs.map .str))), some (.v (.bl own)), some (.v (.int ((row.filter fun x => may own x).map (·.p)).sum)), some (.v x.d), none, none, none, none]) (el := l_x_law_step_right_1) (j := 7) (row := tk row (D1 row own fs w)) fun x => ⟨rfl, by
    have h3 := ixP3 (x := x)
    generalize x.d = xd at h3
    generalize row.map Pl.d = rd
    generalize (tk row (D1 row own fs w)).map Pl.d = td
    generalize (lf row (D1 row own fs w)).map Pl.d = ld
    simp [l_x_law_step_right_1, h3]⟩
  have l2 := mark_lc (row := tk row (D1 row own fs w)) (a0 := .lst (row.map Pl.d)) (a1 := .lst ((tk row (D1 row own fs w)).map Pl.d)) (a2 := .lst ((lf row (D1 row own fs w)).map Pl.d)) (a3 := .int w) (a4 := .lst (fs.map .str)) (a5 := .bl own) (a6 := .int ((row.filter fun x => may own x).map (·.p)).sum)
  have om : own = true → ((tk row (D1 row own fs w)).filter fun x => !decide (x.m = ("" : Str))) = [] := fun ho => by
    refine List.filter_eq_nil_iff.mpr fun x m => ?_
    unfold tk at m
    obtain ⟨y, my, rfl⟩ := List.mem_map.mp m
    obtain ⟨a, b⟩ := List.mem_filter.mp my
    have b := of_decide_eq_true b
    have : may own y = true := by
      cases c : may own y with
      | true => rfl
      | false => rw [D1_not h y a c] at b; exact absurd b (Int.lt_irrefl 0)
    unfold may at this
    rw [ho] at this
    simpa using this
  have en := (Pn.lst (n := 2) (xs := []) fun _ m => nomatch m).ne_self (by omega)
  obtain ⟨y8, y9, y10, y11, fg⟩ := first_go (row := row) (own := own) (fs := fs) (t := D1 row own fs w) (a0 := .lst (row.map Pl.d)) (a3 := .int w) (a6 := .int ((row.filter fun x => may own x).map (·.p)).sum) (fun k z hz => by
    refine Classical.byContradiction fun q => ?_
    obtain ⟨q1, q2⟩ := not_or.mp q
    obtain ⟨x, mx⟩ := List.exists_mem_of_ne_nil _ q1
    obtain ⟨y, my⟩ := List.exists_mem_of_ne_nil _ q2
    obtain ⟨mx, cx⟩ := List.mem_filter.mp mx
    obtain ⟨my, cy⟩ := List.mem_filter.mp my
    rw [lf_eq] at mx
    unfold tk at my
    obtain ⟨x', mx', rfl⟩ := List.mem_map.mp mx
    obtain ⟨y', my', rfl⟩ := List.mem_map.mp my
    obtain ⟨mx', bx⟩ := List.mem_filter.mp mx'
    obtain ⟨my', bY⟩ := List.mem_filter.mp my'
    obtain ⟨c1, c2⟩ := Bool.and_eq_true_iff.mp cx
    have := D1_first h hp hw (own := own) (fs := fs) hz mx' (of_decide_eq_true c1) c2 (of_decide_eq_true bx) my' (of_decide_eq_true bY)
    have c3 : y'.s ∉ fs.take (k + 1) := by simpa using cy
    exact c3 this) hr (zs := fs) (i := 0) (x8 := none) (x9 := none) (x10 := none) (x11 := none) (fun j z q => by rwa [Nat.zero_add])
  rw [← List.length_map (f := Pl.d)] at tl ll
  generalize ((tk row (D1 row own fs w)).filter fun x => !decide (x.m = ("" : Str))) = M at l2 om
  generalize ((tk row (D1 row own fs w)).map (·.p)) = P at l1 f1
  generalize ((row.filter fun x => may own x).map (·.p)).sum = S at *
  generalize ((row.filter fun x => may own x).map (·.p)) = Q at l0 f0
  generalize (tk row (D1 row own fs w)).map Pl.d = td at *
  generalize (lf row (D1 row own fs w)).map Pl.d = ld at *
  have hr' := hr
  rw [← List.length_map (f := Pl.d)] at hr'
  generalize row.map Pl.d = rd at *
  generalize fs.map D.str = fd at *
  simp only [e_x_law_step_right, runD, m_x_law_step_right, sl0]
  simp at fg
  have c0 : rd.length ≤ 16777216 := by omega
  have c1 : td.length ≤ 16777216 := by omega
  cases own with
  | true =>
    have om := om rfl
    subst om
    simp at l2
    simp [r1, ns, l0, c0, c1, f0, l1, f1, l2, en, fg, enum_nums]
  | false => simp [r1, ns, l0, c0, c1, f0, l1, f1, fg, enum_nums]

theorem bits_go {R : List Pl} {own : Bool} {fs : List Str} {a0 a1 a3 : D} (h : IsRow R) (hp : ∀ x ∈ R, 1 ≤ x.p) (hr : R.length ≤ 100) (hf : fs.length ≤ 20) :
    ∀ {cs : List Int} {i : Nat} {v : Int} {x9 x10 x11 x12 x14 x15 : Option D}, 0 ≤ v → i + cs.length ≤ 200 → ∃ (v' : Int) (y9 y10 y11 y12 y14 y15 : Option D), 0 ≤ v' ∧
    forGo (putTup 2 (putCons (put 9) (putCons (put 10) putNil))) b_law_0 [some (.v a0), some (.v a1), some (.v (.lst (R.map Pl.d))), some (.v a3), some (.v (.bl own)), some (.v (.lst (fs.map .str))), some (.v (.lst ((lf R (D1 R own fs v)).map Pl.d))), some (.v (.lst ((tk R (D1 R own fs v)).map Pl.d))), some (.v (.int v)), x9.map .v, x10.map .v, x11.map .v, x12.map .v, none, x14.map .v, x15.map .v, none] (nums i (cs.map .int)) =
      .next [some (.v a0), some (.v a1), some (.v (.lst (R.map Pl.d))), some (.v a3), some (.v (.bl own)), some (.v (.lst (fs.map .str))), some (.v (.lst ((lf R (D1 R own fs v')).map Pl.d))), some (.v (.lst ((tk R (D1 R own fs v')).map Pl.d))), some (.v (.int v')), y9.map .v, y10.map .v, y11.map .v, y12.map .v, none, y14.map .v, y15.map .v, none]
  | [], i, v, x9, x10, x11, x12, x14, x15, hv, _ => ⟨v, x9, x10, x11, x12, x14, x15, hv, rfl⟩
  | c :: cs, i, v, x9, x10, x11, x12, x14, x15, hv, hl => by
    have h1 := mix_ok c ((i : Int) + 1) (by simp at hl; omega)
    have h2 := mix_lo c ((i : Int) + 1)
    generalize mixZ c ((i : Int) + 1) = m at h1 h2
    have g := D1_good h hp (own := own) (fs := fs) hv
    have lr := lf_row h (t := D1 R own fs v)
    have lp := lf_pos (row := R) (t := D1 R own fs v)
    have ll := lf_len R (D1 R own fs v)
    have tl := tk_len R (D1 R own fs v)
    have f0 := sum_ps (lf R (D1 R own fs v))
    have s0 : 0 ≤ ((lf R (D1 R own fs v)).map (·.p)).sum := sum0 lp
    have l1 := all_lc (L := [some (.v a0), some (.v a1), some (.v (.lst (R.map Pl.d))), some (.v a3), some (.v (.bl own)), some (.v (.lst (fs.map .str))), some (.v (.lst ((lf R (D1 R own fs v)).map Pl.d))), some (.v (.lst ((tk R (D1 R own fs v)).map Pl.d))), some (.v (.int v)), some (.v (.int (i : Int))), some (.v (.int c)), some (.v (.int m)), x12.map .v, none, x14.map .v, x15.map .v, none]) (L' := fun x => [some (.v a0), some (.v a1), some (.v (.lst (R.map Pl.d))), some (.v a3), some (.v (.bl own)), some (.v (.lst (fs.map .str))), some (.v (.lst ((lf R (D1 R own fs v)).map Pl.d))), some (.v (.lst ((tk R (D1 R own fs v)).map Pl.d))), some (.v (.int v)), some (.v (.int (i : Int))), some (.v (.int c)), some (.v (.int m)), x12.map .v, some (.v x.d), x14.map .v, x15.map .v, none]) (el := l_law_0) (j := 13) (row := lf R (D1 R own fs v)) fun x => ⟨rfl, by
      have h3 := ixP3 (x := x)
      generalize x.d = xd at h3
      generalize R.map Pl.d = rd
      generalize (tk R (D1 R own fs v)).map Pl.d = td
      generalize (lf R (D1 R own fs v)).map Pl.d = ld
      simp [l_law_0, h3]⟩
    generalize hS : ((lf R (D1 R own fs v)).map (·.p)).sum = S at f0 s0
    generalize (lf R (D1 R own fs v)).map (·.p) = P at l1 f0
    obtain ⟨q, hq⟩ : ∃ q : Int, (if decide (m / 64 % 16 = 0) = true then (1 : Int) else 0) = q := ⟨_, rfl⟩
    have q0 : q = 0 ∨ q = 1 := by rw [← hq]; by_cases c : m / 64 % 16 = 0 <;> simp [c]
    have fi : fInt [.bl (decide (m / 64 % 16 = 0))] = some (.int q) := by rw [fInt_b, hq]
    have fm : fMul (.int S) (.int q) = some (.int (S * q)) := fMul_ii (Or.inr (by omega))
    have sq : 0 ≤ S * q := by rcases q0 with rfl | rfl <;> omega
    have d8 : fDiv (.int S) (.int 8) = some (.int (S / 8)) := fDiv_ii (by omega)
    obtain ⟨w, e14, hw⟩ := pickI (ds := [.int (m / 4 % 5), .int (m / 4 % 30), .int (S / 8), .int (S * q)]) (i := m % 4) (ns := [m / 4 % 5, m / 4 % 30, S / 8, S * q]) (P := fun v => 0 ≤ v) rfl (by omega) (by simp; omega) (by
      intro v mv
      simp only [List.mem_cons, List.not_mem_nil, or_false] at mv
      rcases mv with rfl | rfl | rfl | rfl <;> omega)
    have dr := drawnK (w := w) (own := own) (fs := fs) lr lp hw rowS_l (by omega) rfl hf (s2 := .lst (fs.map .str))
    have gs := D1_good lr lp (own := own) (fs := fs) hw
    have sr := step_right_ok (own := own) (fs := fs) lr lp hw (by omega)
    have ip := is_pair_ok (tk (lf R (D1 R own fs v)) (D1 (lf R (D1 R own fs v)) own fs w)) (lf (lf R (D1 R own fs v)) (D1 (lf R (D1 R own fs v)) own fs w))
    have tl2 := tk_len (lf R (D1 R own fs v)) (D1 (lf R (D1 R own fs v)) own fs w)
    have ra := row_any (row := tk R (D1 R own fs v)) (ps := tk (lf R (D1 R own fs v)) (D1 (lf R (D1 R own fs v)) own fs w)) (by omega)
    have ad := D1_add h hp (own := own) (fs := fs) hv hw
    have gv := D1_good h hp (own := own) (fs := fs) (w := v + w) (by omega)
    rw [ad] at gv
    rw [rowF_row (tk_row h), gone_add h g gs gv, ← ad] at ra
    rw [lf_lf gs.lo, ← ad] at dr sr ip
    obtain ⟨v', y9, y10, y11, y12, y14, y15, hv', e⟩ := bits_go (own := own) (fs := fs) (a0 := a0) (a1 := a1) (a3 := a3) h hp hr hf (cs := cs) (i := i + 1) (v := v + w) (x9 := some (.int (i : Int))) (x10 := some (.int c)) (x11 := some (.int m)) (x12 := some (.int S)) (x14 := some (.int w)) (x15 := some (.tup [.lst ((tk (lf R (D1 R own fs v)) (D1 (lf R (D1 R own fs v)) own fs w)).map Pl.d), .lst ((lf R (D1 R own fs (v + w))).map Pl.d)])) (by omega) (by simp at hl; omega)
    refine ⟨v', y9, y10, y11, y12, y14, y15, hv', ?_⟩
    generalize (tk (lf R (D1 R own fs v)) (D1 (lf R (D1 R own fs v)) own fs w)).map Pl.d = td at *
    rw [← List.length_map (f := Pl.d)] at ll
    generalize (lf R (D1 R own fs v)).map Pl.d = ld at *
    generalize (tk R (D1 R own fs v)).map Pl.d = gd at *
    generalize (lf R (D1 R own fs (v + w))).map Pl.d = ld' at *
    generalize (tk R (D1 R own fs (v + w))).map Pl.d = gd' at *
    rw [List.map_cons, nums_S, forGo_step (L1 := [some (.v a0), some (.v a1), some (.v (.lst (R.map Pl.d))), some (.v a3), some (.v (.bl own)), some (.v (.lst (fs.map .str))), some (.v (.lst ld)), some (.v (.lst gd)), some (.v (.int v)), some (.v (.int (i : Int))), some (.v (.int c)), x11.map .v, x12.map .v, none, x14.map .v, x15.map .v, none]) (L2 := [some (.v a0), some (.v a1), some (.v (.lst (R.map Pl.d))), some (.v a3), some (.v (.bl own)), some (.v (.lst (fs.map .str))), some (.v (.lst ld')), some (.v (.lst gd')), some (.v (.int (v + w))), some (.v (.int (i : Int))), some (.v (.int c)), some (.v (.int m)), some (.v (.int S)), none, some (.v (.int w)), some (.v (.tup [.lst td, .lst ld'])), none]) (by simp) ?_]
    · exact e
    · clear e
      generalize R.map Pl.d = rd at *
      generalize fs.map D.str = fd at *
      simp [b_law_0, h1, l1, f0, d8, -fInt_b, fi, fm, e14, dr, sr, ip, ra, show ld.length ≤ 16777216 by omega]
theorem law_ok (ns : List Int) (hl : ns.length ≤ 63) : runD 17 m_law 1 [.lst (ns.map .int)] = .ok (.v (.bl true)) := by
  have a1 := at_ok ns 1 (by omega)
  generalize atZ ns 1 = c1 at a1
  have a0 := at_ok ns 0 (by omega)
  generalize atZ ns 0 = c0 at a0
  obtain ⟨zs, z1, z2, zf, n1⟩ := names14_ok c1 6 (by omega)
  obtain ⟨many, m1, m2⟩ := many_ok c0
  obtain ⟨ps, p1, p2, p3⟩ := piles_ok ns hl zs z1 many (by omega)
  have r1 := row_ok ps (by omega)
  have r2 := fold_len ps []
  have r3 := fold_pos (ps := ps) (row := []) (fun _ m => nomatch m) fun y m => (p2 y m).p
  have r4 : IsRow (ps.foldl putF []) := by rw [rowF_nil]; exact laid_row ps
  simp only [List.length_nil, Nat.zero_add] at r2
  generalize ps.foldl putF [] = R at r1 r2 r3 r4
  have x1 := mix_ok c0 5 (by omega)
  have x2 := mix_lo c0 5
  generalize mixZ c0 5 = m at x1 x2
  obtain ⟨fs, fl, f1⟩ := first_ok z1 zf (n := m / 2) (by omega)
  obtain ⟨own, ho⟩ : ∃ own : Bool, decide (m % 2 = 1) = own := ⟨_, rfl⟩
  have cut_map : ∀ {xs : List Int} {a b : Option Int}, cut (xs.map D.int) a b = (cut xs a b).map D.int := fun {xs a b} => by
    unfold cut
    rw [List.length_map, List.map_take, List.map_drop]
  have cut_len : ∀ {xs : List Int} {a b : Option Int}, (cut xs a b).length ≤ xs.length := fun {xs a b} => by
    unfold cut
    rw [List.length_take, List.length_drop]
    omega
  have l1 := @cut_len ns none (some 63)
  obtain ⟨v, y9, y10, y11, y12, y14, y15, hv, f⟩ := bits_go (R := R) (own := own) (fs := fs) (a0 := .lst (ns.map .int)) (a1 := .lst (zs.map .str)) (a3 := .int m) r4 r3 (by omega) (by omega) (cs := cut ns none (some 63)) (i := 0) (v := 0) (x9 := none) (x10 := none) (x11 := none) (x12 := none) (x14 := none) (x15 := none) (Int.le_refl 0) (by omega)
  rw [D1_zero r3, lf_zero r3, tk_zero] at f
  have dr := drawnK (w := v) (own := own) (fs := fs) r4 r3 hv rowS_l (by omega) rfl (by omega) (s2 := .lst (fs.map .str))
  have ip := is_pair_ok (tk R (D1 R own fs v)) (lf R (D1 R own fs v))
  generalize (lf R (D1 R own fs v)).map Pl.d = ld at *
  generalize (tk R (D1 R own fs v)).map Pl.d = td at *
  simp only [runD, m_law, sl0]
  simp at n1 p3 f
  generalize R.map Pl.d = rd at *
  generalize fs.map D.str = fd at *
  simp [a1, n1, a0, m2, p3, r1, x1, ho, f1, cut_map, enum_nums, f, dr, ip, show (cut ns none (some 63)).length ≤ 16777216 by omega]

end K15
end
set_option Elab.async false
set_option linter.all false
set_option maxRecDepth 100000
set_option maxHeartbeats 4000000

namespace K15
open PySem PySem.Spec PyProof.Rows L2 Eng
structure Txt (K : PySem.W.Frag) : Prop where
  d_turns_of : DefF K "turns_of" s_turns_of
  d_drawn : DefF K "drawn" s_drawn
  d_x_law_at : DefF K "_law_at" s_x_law_at
  d_x_law_mix : DefF K "_law_mix" s_x_law_mix
  d_x_law_names : DefF K "_law_names" s_x_law_names
  d_x_law_pile : DefF K "_law_pile" s_x_law_pile
  d_x_law_piles : DefF K "_law_piles" s_x_law_piles
  d_x_law_put : DefF K "_law_put" s_x_law_put
  d_x_law_row : DefF K "_law_row" s_x_law_row
  d_x_law_whole : DefF K "_law_whole" s_x_law_whole
  d_x_law_is_row : DefF K "_law_is_row" s_x_law_is_row
  d_x_law_many : DefF K "_law_many" s_x_law_many
  d_x_law_taken : DefF K "_law_taken" s_x_law_taken
  d_x_law_first : DefF K "_law_first" s_x_law_first
  d_x_law_wanted : DefF K "_law_wanted" s_x_law_wanted
  d_x_law_is_pair : DefF K "_law_is_pair" s_x_law_is_pair
  d_x_law_step_right : DefF K "_law_step_right" s_x_law_step_right
  d_law : DefF K "law" s_law
  z_enumerate : PySem.W.nsIn K mainGlobals "enumerate" = some none
  z_min : PySem.W.nsIn K mainGlobals "min" = some none
  z_len : PySem.W.nsIn K mainGlobals "len" = some none
  z_range : PySem.W.nsIn K mainGlobals "range" = some none
  z_max : PySem.W.nsIn K mainGlobals "max" = some none
  z_isinstance : PySem.W.nsIn K mainGlobals "isinstance" = some none
  z_int : PySem.W.nsIn K mainGlobals "int" = some none
  z_bool : PySem.W.nsIn K mainGlobals "bool" = some none
  z_list : PySem.W.nsIn K mainGlobals "list" = some none
  z_zip : PySem.W.nsIn K mainGlobals "zip" = some none
  z_tuple : PySem.W.nsIn K mainGlobals "tuple" = some none
  z_sum : PySem.W.nsIn K mainGlobals "sum" = some none
section
variable {G : Gd} {h : Heap} (X : G.K.In h) (N : h.Ns mainGlobals G.mg) (T : Txt G.K)
include X N T
theorem gr_turns_of : g_turns_of.Gr G := ⟨(List.forall_mem_nil _), (List.forall_mem_cons.mpr ⟨PySem.W.mg_none_of X N T.z_enumerate, (List.forall_mem_nil _)⟩), (List.forall_mem_nil _), (List.forall_mem_nil _), (List.forall_mem_nil _), (List.forall_mem_nil _), (List.forall_mem_nil _), (List.forall_mem_nil _), (List.forall_mem_nil _)⟩
theorem fx_turns_of : FnX G e_turns_of := T.d_turns_of.fnx X N sc_turns_of rfl (fun _ _ _ _ _ _ us hl => match us, hl with | [_, _, _], _ => rfl) rfl (c_turns_of (gr_turns_of X N T))
theorem gr_drawn : g_drawn.Gr G := ⟨(List.forall_mem_cons.mpr ⟨fx_turns_of X N T, (List.forall_mem_nil _)⟩), (List.forall_mem_cons.mpr ⟨PySem.W.mg_none_of X N T.z_min, (List.forall_mem_cons.mpr ⟨PySem.W.mg_none_of X N T.z_enumerate, (List.forall_mem_nil _)⟩)⟩), (List.forall_mem_nil _), (List.forall_mem_nil _), (List.forall_mem_nil _), (List.forall_mem_nil _), (List.forall_mem_nil _), (List.forall_mem_nil _), (List.forall_mem_nil _)⟩
theorem fx_drawn : FnX G e_drawn := T.d_drawn.fnx X N sc_drawn rfl (fun _ _ _ _ _ _ us hl => match us, hl with | [_, _, _, _], _ => rfl) rfl (c_drawn (gr_drawn X N T))
theorem gr_x_law_at : g_x_law_at.Gr G := ⟨(List.forall_mem_nil _), (List.forall_mem_cons.mpr ⟨PySem.W.mg_none_of X N T.z_len, (List.forall_mem_nil _)⟩), (List.forall_mem_nil _), (List.forall_mem_nil _), (List.forall_mem_nil _), (List.forall_mem_nil _), (List.forall_mem_nil _), (List.forall_mem_nil _), (List.forall_mem_nil _)⟩
theorem fx_x_law_at : FnX G e_x_law_at := T.d_x_law_at.fnx X N sc_x_law_at rfl (fun _ _ _ _ _ _ us hl => match us, hl with | [_, _], _ => rfl) rfl (c_x_law_at (gr_x_law_at X N T))
theorem gr_x_law_mix : g_x_law_mix.Gr G := ⟨(List.forall_mem_nil _), (List.forall_mem_nil _), (List.forall_mem_nil _), (List.forall_mem_nil _), (List.forall_mem_nil _), (List.forall_mem_nil _), (List.forall_mem_nil _), (List.forall_mem_nil _), (List.forall_mem_nil _)⟩
theorem fx_x_law_mix : FnX G e_x_law_mix := T.d_x_law_mix.fnx X N sc_x_law_mix rfl (fun _ _ _ _ _ _ us hl => match us, hl with | [_, _], _ => rfl) rfl (c_x_law_mix (gr_x_law_mix X N T))
theorem gr_x_law_names : g_x_law_names.Gr G := ⟨(List.forall_mem_cons.mpr ⟨fx_x_law_mix X N T, (List.forall_mem_nil _)⟩), (List.forall_mem_cons.mpr ⟨PySem.W.mg_none_of X N T.z_range, (List.forall_mem_nil _)⟩), (List.forall_mem_nil _), (List.forall_mem_nil _), (List.forall_mem_nil _), (List.forall_mem_nil _), (List.forall_mem_nil _), (List.forall_mem_nil _), (List.forall_mem_nil _)⟩
theorem fx_x_law_names : FnX G e_x_law_names := T.d_x_law_names.fnx X N sc_x_law_names rfl (fun _ _ _ _ _ _ us hl => match us, hl with | [_, _], _ => rfl) rfl (c_x_law_names (gr_x_law_names X N T))
theorem gr_x_law_pile : g_x_law_pile.Gr G := ⟨(List.forall_mem_cons.mpr ⟨fx_x_law_at X N T, (List.forall_mem_cons.mpr ⟨fx_x_law_mix X N T, (List.forall_mem_nil _)⟩)⟩), (List.forall_mem_cons.mpr ⟨PySem.W.mg_none_of X N T.z_max, (List.forall_mem_cons.mpr ⟨PySem.W.mg_none_of X N T.z_len, (List.forall_mem_nil _)⟩)⟩), (List.forall_mem_nil _), (List.forall_mem_nil _), (List.forall_mem_nil _), (List.forall_mem_nil _), (List.forall_mem_nil _), (List.forall_mem_nil _), (List.forall_mem_nil _)⟩
theorem fx_x_law_pile : FnX G e_x_law_pile := T.d_x_law_pile.fnx X N sc_x_law_pile rfl (fun _ _ _ _ _ _ us hl => match us, hl with | [_, _, _], _ => rfl) rfl (c_x_law_pile (gr_x_law_pile X N T))
theorem gr_x_law_piles : g_x_law_piles.Gr G := ⟨(List.forall_mem_cons.mpr ⟨fx_x_law_pile X N T, (List.forall_mem_nil _)⟩), (List.forall_mem_cons.mpr ⟨PySem.W.mg_none_of X N T.z_range, (List.forall_mem_nil _)⟩), (List.forall_mem_nil _), (List.forall_mem_nil _), (List.forall_mem_nil _), (List.forall_mem_nil _), (List.forall_mem_nil _), (List.forall_mem_nil _), (List.forall_mem_nil _)⟩
theorem fx_x_law_piles : FnX G e_x_law_piles := T.d_x_law_piles.fnx X N sc_x_law_piles rfl (fun _ _ _ _ _ _ us hl => match us, hl with | [_, _, _, _], _ => rfl) rfl (c_x_law_piles (gr_x_law_piles X N T))
theorem gr_x_law_put : g_x_law_put.Gr G := ⟨(List.forall_mem_nil _), (List.forall_mem_cons.mpr ⟨PySem.W.mg_none_of X N T.z_len, (List.forall_mem_nil _)⟩), (List.forall_mem_nil _), (List.forall_mem_nil _), (List.forall_mem_nil _), (List.forall_mem_nil _), (List.forall_mem_nil _), (List.forall_mem_nil _), (List.forall_mem_nil _)⟩
theorem fx_x_law_put : FnX G e_x_law_put := T.d_x_law_put.fnx X N sc_x_law_put rfl (fun _ _ _ _ _ _ us hl => match us, hl with | [_, _], _ => rfl) rfl (c_x_law_put (gr_x_law_put X N T))
theorem gr_x_law_row : g_x_law_row.Gr G := ⟨(List.forall_mem_cons.mpr ⟨fx_x_law_put X N T, (List.forall_mem_nil _)⟩), (List.forall_mem_nil _), (List.forall_mem_nil _), (List.forall_mem_nil _), (List.forall_mem_nil _), (List.forall_mem_nil _), (List.forall_mem_nil _), (List.forall_mem_nil _), (List.forall_mem_nil _)⟩
theorem fx_x_law_row : FnX G e_x_law_row := T.d_x_law_row.fnx X N sc_x_law_row rfl (fun _ _ _ _ _ _ us hl => match us, hl with | [_, _], _ => rfl) rfl (c_x_law_row (gr_x_law_row X N T))
theorem gr_x_law_whole : g_x_law_whole.Gr G := ⟨(List.forall_mem_nil _), (List.forall_mem_cons.mpr ⟨PySem.W.mg_none_of X N T.z_isinstance, (List.forall_mem_cons.mpr ⟨PySem.W.mg_none_of X N T.z_int, (List.forall_mem_cons.mpr ⟨PySem.W.mg_none_of X N T.z_bool, (List.forall_mem_nil _)⟩)⟩)⟩), (List.forall_mem_nil _), (List.forall_mem_nil _), (List.forall_mem_nil _), (List.forall_mem_nil _), (List.forall_mem_nil _), (List.forall_mem_nil _), (List.forall_mem_nil _)⟩
theorem fx_x_law_whole : FnX G e_x_law_whole := T.d_x_law_whole.fnx X N sc_x_law_whole rfl (fun _ _ _ _ _ _ us hl => match us, hl with | [_], _ => rfl) rfl (c_x_law_whole (gr_x_law_whole X N T))
theorem gr_x_law_is_row : g_x_law_is_row.Gr G := ⟨(List.forall_mem_cons.mpr ⟨fx_x_law_whole X N T, (List.forall_mem_nil _)⟩), (List.forall_mem_cons.mpr ⟨PySem.W.mg_none_of X N T.z_isinstance, (List.forall_mem_cons.mpr ⟨PySem.W.mg_none_of X N T.z_list, (List.forall_mem_cons.mpr ⟨PySem.W.mg_none_of X N T.z_len, (List.forall_mem_cons.mpr ⟨PySem.W.mg_none_of X N T.z_zip, (List.forall_mem_cons.mpr ⟨PySem.W.mg_none_of X N T.z_tuple, (List.forall_mem_nil _)⟩)⟩)⟩)⟩)⟩), (List.forall_mem_nil _), (List.forall_mem_nil _), (List.forall_mem_nil _), (List.forall_mem_nil _), (List.forall_mem_nil _), (List.forall_mem_nil _), (List.forall_mem_nil _)⟩
theorem fx_x_law_is_row : FnX G e_x_law_is_row := T.d_x_law_is_row.fnx X N sc_x_law_is_row rfl (fun _ _ _ _ _ _ us hl => match us, hl with | [_, _], _ => rfl) rfl (c_x_law_is_row (gr_x_law_is_row X N T))
theorem gr_x_law_many : g_x_law_many.Gr G := ⟨(List.forall_mem_cons.mpr ⟨fx_x_law_mix X N T, (List.forall_mem_nil _)⟩), (List.forall_mem_nil _), (List.forall_mem_nil _), (List.forall_mem_nil _), (List.forall_mem_nil _), (List.forall_mem_nil _), (List.forall_mem_nil _), (List.forall_mem_nil _), (List.forall_mem_nil _)⟩
theorem fx_x_law_many : FnX G e_x_law_many := T.d_x_law_many.fnx X N sc_x_law_many rfl (fun _ _ _ _ _ _ us hl => match us, hl with | [_], _ => rfl) rfl (c_x_law_many (gr_x_law_many X N T))
theorem gr_x_law_taken : g_x_law_taken.Gr G := ⟨(List.forall_mem_nil _), (List.forall_mem_cons.mpr ⟨PySem.W.mg_none_of X N T.z_list, (List.forall_mem_cons.mpr ⟨PySem.W.mg_none_of X N T.z_enumerate, (List.forall_mem_cons.mpr ⟨PySem.W.mg_none_of X N T.z_min, (List.forall_mem_cons.mpr ⟨PySem.W.mg_none_of X N T.z_range, (List.forall_mem_cons.mpr ⟨PySem.W.mg_none_of X N T.z_len, (List.forall_mem_cons.mpr ⟨PySem.W.mg_none_of X N T.z_tuple, (List.forall_mem_nil _)⟩)⟩)⟩)⟩)⟩)⟩), (List.forall_mem_nil _), (List.forall_mem_nil _), (List.forall_mem_nil _), (List.forall_mem_nil _), (List.forall_mem_nil _), (List.forall_mem_nil _), (List.forall_mem_nil _)⟩
theorem fx_x_law_taken : FnX G e_x_law_taken := T.d_x_law_taken.fnx X N sc_x_law_taken rfl (fun _ _ _ _ _ _ us hl => match us, hl with | [_, _, _, _], _ => rfl) rfl (c_x_law_taken (gr_x_law_taken X N T))
theorem gr_x_law_first : g_x_law_first.Gr G := ⟨(List.forall_mem_nil _), (List.forall_mem_cons.mpr ⟨PySem.W.mg_none_of X N T.z_range, (List.forall_mem_nil _)⟩), (List.forall_mem_nil _), (List.forall_mem_nil _), (List.forall_mem_nil _), (List.forall_mem_nil _), (List.forall_mem_nil _), (List.forall_mem_nil _), (List.forall_mem_nil _)⟩
theorem fx_x_law_first : FnX G e_x_law_first := T.d_x_law_first.fnx X N sc_x_law_first rfl (fun _ _ _ _ _ _ us hl => match us, hl with | [_, _], _ => rfl) rfl (c_x_law_first (gr_x_law_first X N T))
theorem gr_x_law_wanted : g_x_law_wanted.Gr G := ⟨(List.forall_mem_nil _), (List.forall_mem_cons.mpr ⟨PySem.W.mg_none_of X N T.z_sum, (List.forall_mem_cons.mpr ⟨PySem.W.mg_none_of X N T.z_int, (List.forall_mem_nil _)⟩)⟩), (List.forall_mem_nil _), (List.forall_mem_nil _), (List.forall_mem_nil _), (List.forall_mem_nil _), (List.forall_mem_nil _), (List.forall_mem_nil _), (List.forall_mem_nil _)⟩
theorem fx_x_law_wanted : FnX G e_x_law_wanted := T.d_x_law_wanted.fnx X N sc_x_law_wanted rfl (fun _ _ _ _ _ _ us hl => match us, hl with | [_, _, _], _ => rfl) rfl (c_x_law_wanted (gr_x_law_wanted X N T))
theorem gr_x_law_is_pair : g_x_law_is_pair.Gr G := ⟨(List.forall_mem_cons.mpr ⟨fx_x_law_is_row X N T, (List.forall_mem_nil _)⟩), (List.forall_mem_cons.mpr ⟨PySem.W.mg_none_of X N T.z_isinstance, (List.forall_mem_cons.mpr ⟨PySem.W.mg_none_of X N T.z_tuple, (List.forall_mem_cons.mpr ⟨PySem.W.mg_none_of X N T.z_len, (List.forall_mem_nil _)⟩)⟩)⟩), (List.forall_mem_nil _), (List.forall_mem_nil _), (List.forall_mem_nil _), (List.forall_mem_nil _), (List.forall_mem_nil _), (List.forall_mem_nil _), (List.forall_mem_nil _)⟩
theorem fx_x_law_is_pair : FnX G e_x_law_is_pair := T.d_x_law_is_pair.fnx X N sc_x_law_is_pair rfl (fun _ _ _ _ _ _ us hl => match us, hl with | [_, _], _ => rfl) rfl (c_x_law_is_pair (gr_x_law_is_pair X N T))
theorem gr_x_law_step_right : g_x_law_step_right.Gr G := ⟨(List.forall_mem_cons.mpr ⟨fx_x_law_row X N T, (List.forall_mem_nil _)⟩), (List.forall_mem_cons.mpr ⟨PySem.W.mg_none_of X N T.z_sum, (List.forall_mem_cons.mpr ⟨PySem.W.mg_none_of X N T.z_min, (List.forall_mem_cons.mpr ⟨PySem.W.mg_none_of X N T.z_enumerate, (List.forall_mem_nil _)⟩)⟩)⟩), (List.forall_mem_nil _), (List.forall_mem_nil _), (List.forall_mem_nil _), (List.forall_mem_nil _), (List.forall_mem_nil _), (List.forall_mem_nil _), (List.forall_mem_nil _)⟩
theorem fx_x_law_step_right : FnX G e_x_law_step_right := T.d_x_law_step_right.fnx X N sc_x_law_step_right rfl (fun _ _ _ _ _ _ us hl => match us, hl with | [_, _, _, _, _, _], _ => rfl) rfl (c_x_law_step_right (gr_x_law_step_right X N T))
theorem gr_law : g_law.Gr G := ⟨(List.forall_mem_cons.mpr ⟨fx_x_law_names X N T, (List.forall_mem_cons.mpr ⟨fx_x_law_at X N T, (List.forall_mem_cons.mpr ⟨fx_x_law_row X N T, (List.forall_mem_cons.mpr ⟨fx_x_law_piles X N T, (List.forall_mem_cons.mpr ⟨fx_x_law_many X N T, (List.forall_mem_cons.mpr ⟨fx_x_law_mix X N T, (List.forall_mem_cons.mpr ⟨fx_x_law_first X N T, (List.forall_mem_cons.mpr ⟨fx_drawn X N T, (List.forall_mem_cons.mpr ⟨fx_x_law_is_pair X N T, (List.forall_mem_cons.mpr ⟨fx_x_law_step_right X N T, (List.forall_mem_nil _)⟩)⟩)⟩)⟩)⟩)⟩)⟩)⟩)⟩)⟩), (List.forall_mem_cons.mpr ⟨PySem.W.mg_none_of X N T.z_list, (List.forall_mem_cons.mpr ⟨PySem.W.mg_none_of X N T.z_enumerate, (List.forall_mem_cons.mpr ⟨PySem.W.mg_none_of X N T.z_sum, (List.forall_mem_cons.mpr ⟨PySem.W.mg_none_of X N T.z_int, (List.forall_mem_nil _)⟩)⟩)⟩)⟩), (List.forall_mem_nil _), (List.forall_mem_nil _), (List.forall_mem_nil _), (List.forall_mem_nil _), (List.forall_mem_nil _), (List.forall_mem_nil _), (List.forall_mem_nil _)⟩
end
theorem all_mk {P : Program} {w : World} {K : PySem.W.Frag} {h : Heap} {mg : Str → Option Value} {fa : Addr} (X : K.In h) (N : h.Ns mainGlobals mg) (hfa : mg "law" = some (.ref fa)) (T : Txt K) :
    ∃ fd : FuncData, (∀ (s : Shared) (v : Value), BindsTo s fd ⟨[v], []⟩ [("_law_script", v)]) ∧ ∀ base : Heap, K.In base → base.Ns mainGlobals mg → FnOk P w K mg base (L2.CX P w) 4 fa fd ["_law_script"] (spLaw K 63) := by
  obtain ⟨f, fd, h1, F, kV, doc, pm, an, cdv, ct, efd⟩ := T.d_law.fn
  have e := hfa.symm.trans (PySem.W.mg_of X N h1)
  cases e
  refine ⟨fd, fun s v => by subst efd; exact .of_eq rfl, fun base hb hn => ?_⟩
  exact law_end (G := ⟨P, w, K, mg, base, fun _ => (0, 0)⟩) (fnok_of (G := ⟨P, w, K, mg, base, fun _ => (0, 0)⟩) F sc_law rfl rfl (c_law (gr_law (G := ⟨P, w, K, mg, base, fun _ => (0, 0)⟩) X N T))) law_ok
end K15
open PySem PySem.W PyProof.Rows
set_option maxRecDepth 100000 in
set_option maxHeartbeats 0 in
theorem PySem.Challenge.cw_pointpurse_k15_whole_drawn_bit_by_bit_holds : PySem.Challenge.rw_pointpurse_k15_whole_drawn_bit_by_bit.Holds := by
  w_on; o_law; k_head; (case hw => w_witness2)
  k_fill
  refine L2.walk_of (l := PySem.Challenge.rw_pointpurse_k15_whole_drawn_bit_by_bit) (n := 63) (k := 4) (x := "_law_script") (CX := fun w => L2.CX PySem.Challenge.rw_pointpurse_k15_whole_drawn_bit_by_bit.prog w) (sp := fun w => Eng.spLaw _ 63) rfl (by decide) rfl ⟨rfl, by decide, by decide⟩ (fun w h Y => PySem.W.kIn_of Y) ?F (fun _ _ a ns hl _ hS => ⟨a, ns, rfl, hS, hl, fun _ => rfl⟩) (fun _ _ _ _ _ h => Eng.cx_no h)
  case F =>
    intro w mg fa h KX G hmg
    refine K15.all_mk KX G hmg ?_
    constructor
    · exact ⟨⟨_, _, _, _, _, _, _, _, _, _, by k_is, by k_is, by k_is, by k_is⟩⟩
    · exact ⟨⟨_, _, _, _, _, _, _, _, _, _, by k_is, by k_is, by k_is, by k_is⟩⟩
    · exact ⟨⟨_, _, _, _, _, _, _, _, _, _, by k_is, by k_is, by k_is, by k_is⟩⟩
    · exact ⟨⟨_, _, _, _, _, _, _, _, _, _, by k_is, by k_is, by k_is, by k_is⟩⟩
    · exact ⟨⟨_, _, _, _, _, _, _, _, _, _, by k_is, by k_is, by k_is, by k_is⟩⟩
    · exact ⟨⟨_, _, _, _, _, _, _, _, _, _, by k_is, by k_is, by k_is, by k_is⟩⟩
    · exact ⟨⟨_, _, _, _, _, _, _, _, _, _, by k_is, by k_is, by k_is, by k_is⟩⟩
    · exact ⟨⟨_, _, _, _, _, _, _, _, _, _, by k_is, by k_is, by k_is, by k_is⟩⟩
    · exact ⟨⟨_, _, _, _, _, _, _, _, _, _, by k_is, by k_is, by k_is, by k_is⟩⟩
    · exact ⟨⟨_, _, _, _, _, _, _, _, _, _, by k_is, by k_is, by k_is, by k_is⟩⟩
    · exact ⟨⟨_, _, _, _, _, _, _, _, _, _, by k_is, by k_is, by k_is, by k_is⟩⟩
    · exact ⟨⟨_, _, _, _, _, _, _, _, _, _, by k_is, by k_is, by k_is, by k_is⟩⟩
    · exact ⟨⟨_, _, _, _, _, _, _, _, _, _, by k_is, by k_is, by k_is, by k_is⟩⟩
    · exact ⟨⟨_, _, _, _, _, _, _, _, _, _, by k_is, by k_is, by k_is, by k_is⟩⟩
    · exact ⟨⟨_, _, _, _, _, _, _, _, _, _, by k_is, by k_is, by k_is, by k_is⟩⟩
    · exact ⟨⟨_, _, _, _, _, _, _, _, _, _, by k_is, by k_is, by k_is, by k_is⟩⟩
    · exact ⟨⟨_, _, _, _, _, _, _, _, _, _, by k_is, by k_is, by k_is, by k_is⟩⟩
    · exact ⟨⟨_, _, _, _, _, _, _, _, _, _, by k_is, by k_is, by k_is, by k_is⟩⟩
    · k_is
    · k_is
    · k_is
    · k_is
    · k_is
    · k_is
    · k_is
    · k_is
    · k_is
    · k_is
    · k_is
    · k_is

