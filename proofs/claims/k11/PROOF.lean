import PyProof.Rows.All
import HandS.ForMost
import HandS.Lambda
import HandS.Exc
import HandS.ExcOwn
import HandS.TryOnly
import HandS.TryMany
import HandS.WordsExc
import HandS.ExcIs
import HandS.IsInst
import KE.RegKIsAll
import HandS.Wide
import HandS.TupAny
import KE.DataCmp
import KE.DataEq
import HandS.Style
import KE.DataIsa
import HandS.WideBits
import HandS.TupLen
import HandS.SuiteRaise
import KE.SortData
import HandS.TupMul
import KE.KDictSum
import KE.KDictCopyH
import HandS.More
import HandS.SetFor
import HandS.SetIn
import HandS.Strs
import HandS.RevTup
import HandS.Rev
import HandS.DictTup
import KE.KDictPairs
import PyProof.FitsReplace
import HandS.Iter
import PyProof.StrBlock2
import HandS.RaiseMore
import KE.GoesEnum
import KE.DataFind
import KE.SortUse
import KE.KNestM
import HandS.DeepEq
import KE.KEqNest
import HandS.Conv
import PyProof.Rows.SeqMore
import HandS.Zip
import HandS.Flow
import KE.GoesComp
import PyProof.ListStr
import Wide.All
import OpenK.AllK
import Wide.FinOn
import PyProof.EqAt
import PyProof.EqKinds
import PyProof.TupleCall
import PySem.Challenge.RW_pointpurse_k11_deed_texts_refused
section
set_option Elab.async false
set_option linter.all false
set_option maxRecDepth 100000
set_option maxHeartbeats 4000000
namespace Eng
open PySem PySem.Spec PyProof.Rows L2
structure Tg where
  P : Program
  w : World
  t : Nat → Addr × Nat
def DictE (g : Tg) (a : Addr) (kvs : List (Key × V)) (ep : Nat) : Heap → Prop := fun h => (∀ H, ObjOk g.P g.w H h a (.dK kvs)) ∧ ∃ o es, h.get? a = some o ∧ o.data = .dict es ep
inductive D where
  | non | bl (b : Bool) | int (i : Int) | str (x : Str) | lst (xs : List D) | tup (xs : List D)
  | ins (c : Str) (fs : List (Str × D)) | dk (kvs : List (Key × D)) | dt (kvs : List (List Key × D))
  | exn (c : Str) (fs : List (Str × D)) | opq | xt (xs : List D)
inductive O where
  | v (d : D) | ml (xs : List O) | mt (xs : List O) | mk (kvs : List (Key × O)) | mq (kvs : List (List Key × O)) | mi (p : Bool) (c : Str) (fs : List (Str × O))
  | pin (o : O) | me (n : Nat) (kvs : List (Key × O))
def ExAt (a : Addr) (C : Addr) (d : Option Addr) : Heap → Prop := fun h => ∃ o vs, h.get? a = some o ∧ Zc (.ref C) d o ∧ o.data = .fields vs
def XtO (o : Obj) : Prop := o.cls = .type "tuple" ∧ o.dict = none
def ExDict (F : Hp) (d : Option Addr) (fs : List (Str × V)) : Prop := (d = none ∧ fs = []) ∨ ∃ dx, d = some dx ∧ fs ≠ [] ∧ F dx = some (.xd fs)
section
variable (tg : Tg) (K : PySem.W.Frag) (mg : Str → Option Value)
mutual
inductive Rp (F : Hp) : V → D → Prop
  | non : Rp F .non .non
  | bl (b : Bool) : Rp F (.bl b) (.bl b)
  | int (i : Int) : Rp F (.int i) (.int i)
  | str (x : Str) : Rp F (.str x) (.str x)
  | lst {a : Addr} {xs : List V} {ds : List D} : SqL K F a xs → RpA F xs ds → Rp F (.ref a) (.lst ds)
  | tup {a : Addr} {xs : List V} {ds : List D} : F a = some (.tup xs) → RpA F xs ds → Rp F (.ref a) (.tup ds)
  | ins {a C dx : Addr} {c : Str} {fs : List (Str × V)} {gs : List (Str × D)} : F a = some (.ins C dx fs) → mg c = some (.ref C) → RpF F fs gs → Rp F (.ref a) (.ins c gs)
  | dk {a : Addr} {kvs : List (Key × V)} {ds : List (Key × D)} : Rd F a (.dK kvs) → RpK F kvs ds → Rp F (.ref a) (.dk ds)
  | dt {a : Addr} {kvs : List (List Key × V)} {ds : List (List Key × D)} : Rd F a (.dT kvs) → RpT F kvs ds → Rp F (.ref a) (.dt ds)
  | exn {a C : Addr} {d : Option Addr} {c : Str} {fs : List (Str × V)} {gs : List (Str × D)} : F a = some (.ext (ExAt a C d)) → mg c = some (.ref C) → ExDict F d fs → RpF F fs gs → Rp F (.ref a) (.exn c gs)
  | opq (a : Addr) : Rp F (.ref a) .opq
  | xt {a : Addr} {o : Obj} {xs : List V} {ds : List D} : XtO o → F a = some (.frz o (.tup xs)) → RpA F xs ds → Rp F (.ref a) (.xt ds)
inductive RpA (F : Hp) : List V → List D → Prop
  | nil : RpA F [] []
  | cons {v : V} {vs : List V} {d : D} {ds : List D} : Rp F v d → RpA F vs ds → RpA F (v :: vs) (d :: ds)
inductive RpF (F : Hp) : List (Str × V) → List (Str × D) → Prop
  | nil : RpF F [] []
  | cons {x : Str} {v : V} {vs : List (Str × V)} {d : D} {ds : List (Str × D)} : Rp F v d → RpF F vs ds → RpF F ((x, v) :: vs) ((x, d) :: ds)
inductive RpK (F : Hp) : List (Key × V) → List (Key × D) → Prop
  | nil : RpK F [] []
  | cons {x : Key} {v : V} {vs : List (Key × V)} {d : D} {ds : List (Key × D)} : Rp F v d → RpK F vs ds → RpK F ((x, v) :: vs) ((x, d) :: ds)
inductive RpT (F : Hp) : List (List Key × V) → List (List Key × D) → Prop
  | nil : RpT F [] []
  | cons {x : List Key} {v : V} {vs : List (List Key × V)} {d : D} {ds : List (List Key × D)} : Rp F v d → RpT F vs ds → RpT F ((x, v) :: vs) ((x, d) :: ds)
end
mutual
inductive Ow (F H : Hp) : V → O → List Addr → Prop
  | v {v : V} {d : D} : Rp K mg F v d → Ow F H v (.v d) []
  | ml {a : Addr} {xs : List V} {os : List O} {A : List Addr} : H a = some (.lst xs) → OwA F H xs os A → Ow F H (.ref a) (.ml os) (a :: A)
  | mt {a : Addr} {xs : List V} {os : List O} {A : List Addr} : F a = some (.tup xs) → OwA F H xs os A → Ow F H (.ref a) (.mt os) A
  | mk {a : Addr} {kvs : List (Key × V)} {os : List (Key × O)} {A : List Addr} : H a = some (.dK kvs) → OwK F H kvs os A → Ow F H (.ref a) (.mk os) (a :: A)
  | mq {a : Addr} {kvs : List (List Key × V)} {os : List (List Key × O)} {A : List Addr} : H a = some (.dT kvs) → OwT F H kvs os A → Ow F H (.ref a) (.mq os) (a :: A)
  | mi {a C dx : Addr} {p : Bool} {c : Str} {fs : List (Str × V)} {os : List (Str × O)} {A : List Addr} : H a = some (.ins C dx fs) → mg c = some (.ref C) → OwF F H fs os A → Ow F H (.ref a) (.mi p c os) (a :: A)
  | pin {v : V} {o : O} {A : List Addr} : Ow F H v o A → Ow F H v (.pin o) A
  | me {a : Addr} {n : Nat} {kvs : List (Key × V)} {os : List (Key × O)} {A : List Addr} : a = (tg.t n).1 → H a = some (.ext (DictE tg a kvs (tg.t n).2)) → OwK F H kvs os A → Ow F H (.ref a) (.me n os) (a :: A)
inductive OwA (F H : Hp) : List V → List O → List Addr → Prop
  | nil : OwA F H [] [] []
  | cons {v : V} {vs : List V} {o : O} {os : List O} {A B : List Addr} : Ow F H v o A → OwA F H vs os B → OwA F H (v :: vs) (o :: os) (A ++ B)
inductive OwK (F H : Hp) : List (Key × V) → List (Key × O) → List Addr → Prop
  | nil : OwK F H [] [] []
  | cons {x : Key} {v : V} {vs : List (Key × V)} {o : O} {os : List (Key × O)} {A B : List Addr} : Ow F H v o A → OwK F H vs os B → OwK F H ((x, v) :: vs) ((x, o) :: os) (A ++ B)
inductive OwT (F H : Hp) : List (List Key × V) → List (List Key × O) → List Addr → Prop
  | nil : OwT F H [] [] []
  | cons {x : List Key} {v : V} {vs : List (List Key × V)} {o : O} {os : List (List Key × O)} {A B : List Addr} : Ow F H v o A → OwT F H vs os B → OwT F H ((x, v) :: vs) ((x, o) :: os) (A ++ B)
inductive OwF (F H : Hp) : List (Str × V) → List (Str × O) → List Addr → Prop
  | nil : OwF F H [] [] []
  | cons {x : Str} {v : V} {vs : List (Str × V)} {o : O} {os : List (Str × O)} {A B : List Addr} : Ow F H v o A → OwF F H vs os B → OwF F H ((x, v) :: vs) ((x, o) :: os) (A ++ B)
end
end
section
variable {tg : Tg} {K : PySem.W.Frag} {mg : Str → Option Value}
theorem _root_.L2.Same.seqT {K : PySem.W.Frag} {H H' : Hp} {a : Addr} {xs : List V} (e : Same H H') (h : SqT K H a xs) : SqT K H' a xs := by
  rcases h with (h | ⟨o, h⟩) | h
  · exact .inl (.inl (e _ _ h))
  · exact .inl (.inr ⟨o, e _ _ h⟩)
  · exact .inr h
theorem _root_.L2.Same.tq {K : PySem.W.Frag} {H H' : Hp} {a : Addr} {xs : List V} (e : Same H H') (h : H a = some (.tup xs)) : SqT K H' a xs := .inl (.inl (e _ _ h))
theorem Same.rd {F F' : Hp} {a : Addr} {u : HO} (s : Same F F') (h : Rd F a u) : Rd F' a u := by
  rcases h with h | ⟨o, h⟩
  · exact .inl (s _ _ h)
  · exact .inr ⟨o, s _ _ h⟩
mutual
theorem Rp.mono {F F' : Hp} (s : Same F F') : ∀ {v : V} {d : D}, Rp K mg F v d → Rp K mg F' v d
  | _, _, .non => .non
  | _, _, .bl b => .bl b
  | _, _, .int b => .int b
  | _, _, .str b => .str b
  | _, _, .lst h r => .lst (s.seq h) (RpA.mono s r)
  | _, _, .tup h r => .tup (s _ _ h) (RpA.mono s r)
  | _, _, .ins h e r => .ins (s _ _ h) e (RpF.mono s r)
  | _, _, .dk h r => .dk (Same.rd s h) (RpK.mono s r)
  | _, _, .dt h r => .dt (Same.rd s h) (RpT.mono s r)
  | _, _, .exn h e d r => .exn (s _ _ h) e (d.imp id fun ⟨dx, e, n, h⟩ => ⟨dx, e, n, s _ _ h⟩) (RpF.mono s r)
  | _, _, .opq v => .opq v
  | _, _, .xt x h r => .xt x (s _ _ h) (RpA.mono s r)
theorem RpA.mono {F F' : Hp} (s : Same F F') : ∀ {v : List V} {d : List D}, RpA K mg F v d → RpA K mg F' v d
  | _, _, .nil => .nil
  | _, _, .cons r t => .cons (Rp.mono s r) (RpA.mono s t)
theorem RpF.mono {F F' : Hp} (s : Same F F') : ∀ {v : List (Str × V)} {d : List (Str × D)}, RpF K mg F v d → RpF K mg F' v d
  | _, _, .nil => .nil
  | _, _, .cons r t => .cons (Rp.mono s r) (RpF.mono s t)
theorem RpK.mono {F F' : Hp} (s : Same F F') : ∀ {v : List (Key × V)} {d : List (Key × D)}, RpK K mg F v d → RpK K mg F' v d
  | _, _, .nil => .nil
  | _, _, .cons r t => .cons (Rp.mono s r) (RpK.mono s t)
theorem RpT.mono {F F' : Hp} (s : Same F F') : ∀ {v : List (List Key × V)} {d : List (List Key × D)}, RpT K mg F v d → RpT K mg F' v d
  | _, _, .nil => .nil
  | _, _, .cons r t => .cons (Rp.mono s r) (RpT.mono s t)
end
mutual
theorem Ow.mono {F F' H H' : Hp} (s : Same F F') : ∀ {v : V} {o : O} {A : List Addr}, (∀ a ∈ A, H' a = H a) → Ow tg K mg F H v o A → Ow tg K mg F' H' v o A
  | _, _, _, _, .v r => .v (Rp.mono s r)
  | _, _, _, hA, .ml h r => .ml ((hA _ List.mem_cons_self).trans h) (OwA.mono s (fun a m => hA a (List.mem_cons_of_mem _ m)) r)
  | _, _, _, hA, .mt h r => .mt (s _ _ h) (OwA.mono s hA r)
  | _, _, _, hA, .mk h r => .mk ((hA _ List.mem_cons_self).trans h) (OwK.mono s (fun a m => hA a (List.mem_cons_of_mem _ m)) r)
  | _, _, _, hA, .mq h r => .mq ((hA _ List.mem_cons_self).trans h) (OwT.mono s (fun a m => hA a (List.mem_cons_of_mem _ m)) r)
  | _, _, _, hA, .mi h e r => .mi ((hA _ List.mem_cons_self).trans h) e (OwF.mono s (fun a m => hA a (List.mem_cons_of_mem _ m)) r)
  | _, _, _, hA, .pin r => .pin (Ow.mono s hA r)
  | _, _, _, hA, .me e h r => .me e (by rw [hA _ List.mem_cons_self]; exact h) (OwK.mono s (fun a m => hA a (List.mem_cons_of_mem _ m)) r)
theorem OwA.mono {F F' H H' : Hp} (s : Same F F') : ∀ {v : List V} {o : List O} {A : List Addr}, (∀ a ∈ A, H' a = H a) → OwA tg K mg F H v o A → OwA tg K mg F' H' v o A
  | _, _, _, _, .nil => .nil
  | _, _, _, hA, .cons r t => .cons (Ow.mono s (fun a m => hA a (List.mem_append_left _ m)) r) (OwA.mono s (fun a m => hA a (List.mem_append_right _ m)) t)
theorem OwK.mono {F F' H H' : Hp} (s : Same F F') : ∀ {v : List (Key × V)} {o : List (Key × O)} {A : List Addr}, (∀ a ∈ A, H' a = H a) → OwK tg K mg F H v o A → OwK tg K mg F' H' v o A
  | _, _, _, _, .nil => .nil
  | _, _, _, hA, .cons r t => .cons (Ow.mono s (fun a m => hA a (List.mem_append_left _ m)) r) (OwK.mono s (fun a m => hA a (List.mem_append_right _ m)) t)
theorem OwT.mono {F F' H H' : Hp} (s : Same F F') : ∀ {v : List (List Key × V)} {o : List (List Key × O)} {A : List Addr}, (∀ a ∈ A, H' a = H a) → OwT tg K mg F H v o A → OwT tg K mg F' H' v o A
  | _, _, _, _, .nil => .nil
  | _, _, _, hA, .cons r t => .cons (Ow.mono s (fun a m => hA a (List.mem_append_left _ m)) r) (OwT.mono s (fun a m => hA a (List.mem_append_right _ m)) t)
theorem OwF.mono {F F' H H' : Hp} (s : Same F F') : ∀ {v : List (Str × V)} {o : List (Str × O)} {A : List Addr}, (∀ a ∈ A, H' a = H a) → OwF tg K mg F H v o A → OwF tg K mg F' H' v o A
  | _, _, _, _, .nil => .nil
  | _, _, _, hA, .cons r t => .cons (Ow.mono s (fun a m => hA a (List.mem_append_left _ m)) r) (OwF.mono s (fun a m => hA a (List.mem_append_right _ m)) t)
end
end
mutual
def O.fr : O → D
  | .v d => d
  | .ml xs => .lst (O.frA xs)
  | .mt xs => .tup (O.frA xs)
  | .mk kvs => .dk (O.frK kvs)
  | .mq kvs => .dt (O.frT kvs)
  | .mi _ c fs => .ins c (O.frF fs)
  | .pin o => o.fr
  | .me _ _ => .opq
def O.frA : List O → List D
  | [] => []
  | o :: os => o.fr :: O.frA os
def O.frK : List (Key × O) → List (Key × D)
  | [] => []
  | (k, o) :: os => (k, o.fr) :: O.frK os
def O.frT : List (List Key × O) → List (List Key × D)
  | [] => []
  | (k, o) :: os => (k, o.fr) :: O.frT os
def O.frF : List (Str × O) → List (Str × D)
  | [] => []
  | (k, o) :: os => (k, o.fr) :: O.frF os
end
def join (F H : Hp) (A : List Addr) : Hp := fun a => if a ∈ A then H a else F a
section
variable {tg : Tg} {K : PySem.W.Frag} {mg : Str → Option Value} {F H : Hp}
theorem join_mem {A : List Addr} {a : Addr} (h : a ∈ A) : join F H A a = H a := if_pos h
theorem join_not {A : List Addr} {a : Addr} (h : a ∉ A) : join F H A a = F a := if_neg h
theorem join_same {A : List Addr} (h : ∀ a ∈ A, F a = none) : Same F (join F H A) := fun a o e => by
  rw [join_not (fun m => by rw [h a m] at e; cases e)]; exact e
theorem join_le {A : List Addr} (h : Same F H) : Same (join F H A) H := fun a o e => by
  unfold join at e; split at e
  · exact e
  · exact h a o e
mutual
theorem Ow.fr : ∀ {v : V} {o : O} {A B : List Addr}, (∀ a ∈ B, F a = none) → (∀ a ∈ A, a ∈ B) → Ow tg K mg F H v o A → Rp K mg (join F H B) v o.fr
  | _, _, _, B, hB, _, .v r => Rp.mono (join_same hB) r
  | _, _, _, B, hB, hA, .ml h r => by
    unfold O.fr
    exact .lst (.inl (.inl ((join_mem (hA _ List.mem_cons_self)).trans h))) (OwA.fr hB (fun a m => hA a (List.mem_cons_of_mem _ m)) r)
  | _, _, _, B, hB, hA, .mt h r => by
    unfold O.fr
    exact .tup ((join_same hB) _ _ h) (OwA.fr hB hA r)
  | _, _, _, B, hB, hA, .mk h r => by
    unfold O.fr
    exact .dk (.inl ((join_mem (hA _ List.mem_cons_self)).trans h)) (OwK.fr hB (fun a m => hA a (List.mem_cons_of_mem _ m)) r)
  | _, _, _, B, hB, hA, .mq h r => by
    unfold O.fr
    exact .dt (.inl ((join_mem (hA _ List.mem_cons_self)).trans h)) (OwT.fr hB (fun a m => hA a (List.mem_cons_of_mem _ m)) r)
  | _, _, _, B, hB, hA, .mi h e r => by
    unfold O.fr
    exact .ins ((join_mem (hA _ List.mem_cons_self)).trans h) e (OwF.fr hB (fun a m => hA a (List.mem_cons_of_mem _ m)) r)
  | _, _, _, B, hB, hA, .pin r => by
    unfold O.fr
    exact Ow.fr hB hA r
  | _, _, _, B, hB, hA, .me e h r => by
    unfold O.fr
    exact .opq _
theorem OwA.fr : ∀ {v : List V} {o : List O} {A B : List Addr}, (∀ a ∈ B, F a = none) → (∀ a ∈ A, a ∈ B) → OwA tg K mg F H v o A → RpA K mg (join F H B) v (O.frA o)
  | _, _, _, _, _, _, .nil => .nil
  | _, _, _, _, hB, hA, .cons r t => .cons (Ow.fr hB (fun a m => hA a (List.mem_append_left _ m)) r) (OwA.fr hB (fun a m => hA a (List.mem_append_right _ m)) t)
theorem OwK.fr : ∀ {v : List (Key × V)} {o : List (Key × O)} {A B : List Addr}, (∀ a ∈ B, F a = none) → (∀ a ∈ A, a ∈ B) → OwK tg K mg F H v o A → RpK K mg (join F H B) v (O.frK o)
  | _, _, _, _, _, _, .nil => .nil
  | _, _, _, _, hB, hA, .cons r t => .cons (Ow.fr hB (fun a m => hA a (List.mem_append_left _ m)) r) (OwK.fr hB (fun a m => hA a (List.mem_append_right _ m)) t)
theorem OwT.fr : ∀ {v : List (List Key × V)} {o : List (List Key × O)} {A B : List Addr}, (∀ a ∈ B, F a = none) → (∀ a ∈ A, a ∈ B) → OwT tg K mg F H v o A → RpT K mg (join F H B) v (O.frT o)
  | _, _, _, _, _, _, .nil => .nil
  | _, _, _, _, hB, hA, .cons r t => .cons (Ow.fr hB (fun a m => hA a (List.mem_append_left _ m)) r) (OwT.fr hB (fun a m => hA a (List.mem_append_right _ m)) t)
theorem OwF.fr : ∀ {v : List (Str × V)} {o : List (Str × O)} {A B : List Addr}, (∀ a ∈ B, F a = none) → (∀ a ∈ A, a ∈ B) → OwF tg K mg F H v o A → RpF K mg (join F H B) v (O.frF o)
  | _, _, _, _, _, _, .nil => .nil
  | _, _, _, _, hB, hA, .cons r t => .cons (Ow.fr hB (fun a m => hA a (List.mem_append_left _ m)) r) (OwF.fr hB (fun a m => hA a (List.mem_append_right _ m)) t)
end
theorem Ow.some : ∀ {v : V} {o : O} {A : List Addr}, Ow tg K mg F H v o A → ∀ a ∈ A, ∃ u, H a = Option.some u := by
  intro v o A h
  exact Ow.rec (tg := tg) (K := K) (mg := mg) (F := F) (H := H) (motive_1 := fun _ _ A _ => ∀ a ∈ A, ∃ u, H a = Option.some u) (motive_2 := fun _ _ A _ => ∀ a ∈ A, ∃ u, H a = Option.some u)
    (motive_3 := fun _ _ A _ => ∀ a ∈ A, ∃ u, H a = Option.some u) (motive_4 := fun _ _ A _ => ∀ a ∈ A, ∃ u, H a = Option.some u) (motive_5 := fun _ _ A _ => ∀ a ∈ A, ∃ u, H a = Option.some u)
    (fun _ a m => nomatch m)
    (fun h _ ih a m => by rcases List.mem_cons.mp m with rfl | m; exact ⟨_, h⟩; exact ih a m)
    (fun h _ ih a m => ih a m)
    (fun h _ ih a m => by rcases List.mem_cons.mp m with rfl | m; exact ⟨_, h⟩; exact ih a m)
    (fun h _ ih a m => by rcases List.mem_cons.mp m with rfl | m; exact ⟨_, h⟩; exact ih a m)
    (fun h _ _ ih a m => by rcases List.mem_cons.mp m with rfl | m; exact ⟨_, h⟩; exact ih a m)
    (fun _ ih a m => ih a m)
    (fun _ h _ ih a m => by rcases List.mem_cons.mp m with rfl | m; exact ⟨_, h⟩; exact ih a m)
    (fun a m => nomatch m) (fun _ _ i1 i2 a m => by rcases List.mem_append.mp m with m | m; exact i1 a m; exact i2 a m)
    (fun a m => nomatch m) (fun _ _ i1 i2 a m => by rcases List.mem_append.mp m with m | m; exact i1 a m; exact i2 a m)
    (fun a m => nomatch m) (fun _ _ i1 i2 a m => by rcases List.mem_append.mp m with m | m; exact i1 a m; exact i2 a m)
    (fun a m => nomatch m) (fun _ _ i1 i2 a m => by rcases List.mem_append.mp m with m | m; exact i1 a m; exact i2 a m) h
def MutO : HO → Prop | .lst _ => True | .dK _ => True | .dT _ => True | .ins _ _ _ => True | .ext p => ∃ g a kvs ep, p = DictE g a kvs ep | _ => False
theorem Ow.mut : ∀ {v : V} {o : O} {A : List Addr}, Ow tg K mg F H v o A → ∀ a ∈ A, ∃ u, H a = Option.some u ∧ MutO u := by
  intro v o A h
  exact Ow.rec (tg := tg) (K := K) (mg := mg) (F := F) (H := H) (motive_1 := fun _ _ A _ => ∀ a ∈ A, ∃ u, H a = Option.some u ∧ MutO u) (motive_2 := fun _ _ A _ => ∀ a ∈ A, ∃ u, H a = Option.some u ∧ MutO u)
    (motive_3 := fun _ _ A _ => ∀ a ∈ A, ∃ u, H a = Option.some u ∧ MutO u) (motive_4 := fun _ _ A _ => ∀ a ∈ A, ∃ u, H a = Option.some u ∧ MutO u) (motive_5 := fun _ _ A _ => ∀ a ∈ A, ∃ u, H a = Option.some u ∧ MutO u)
    (fun _ a m => nomatch m)
    (fun h _ ih a m => by rcases List.mem_cons.mp m with rfl | m; exact ⟨_, h, trivial⟩; exact ih a m)
    (fun h _ ih a m => ih a m)
    (fun h _ ih a m => by rcases List.mem_cons.mp m with rfl | m; exact ⟨_, h, trivial⟩; exact ih a m)
    (fun h _ ih a m => by rcases List.mem_cons.mp m with rfl | m; exact ⟨_, h, trivial⟩; exact ih a m)
    (fun h _ _ ih a m => by rcases List.mem_cons.mp m with rfl | m; exact ⟨_, h, trivial⟩; exact ih a m)
    (fun _ ih a m => ih a m)
    (fun _ h _ ih a m => by rcases List.mem_cons.mp m with rfl | m; exact ⟨_, h, ⟨_, _, _, _, rfl⟩⟩; exact ih a m)
    (fun a m => nomatch m) (fun _ _ i1 i2 a m => by rcases List.mem_append.mp m with m | m; exact i1 a m; exact i2 a m)
    (fun a m => nomatch m) (fun _ _ i1 i2 a m => by rcases List.mem_append.mp m with m | m; exact i1 a m; exact i2 a m)
    (fun a m => nomatch m) (fun _ _ i1 i2 a m => by rcases List.mem_append.mp m with m | m; exact i1 a m; exact i2 a m)
    (fun a m => nomatch m) (fun _ _ i1 i2 a m => by rcases List.mem_append.mp m with m | m; exact i1 a m; exact i2 a m) h
end
end Eng
end
section
set_option Elab.async false
set_option linter.all false
set_option maxRecDepth 100000
set_option maxHeartbeats 4000000
namespace Eng
open PySem PySem.Spec PyProof.Rows L2
abbrev Sl := List (Option O)
inductive R (α : Type) where
  | ok (a : α) | exc (c : Str) | stuck
def R.bind {α β : Type} (m : R α) (f : α → R β) : R β := match m with | .ok a => f a | .exc c => .exc c | .stuck => .stuck
instance : Monad R where
  pure := .ok
  bind := R.bind
inductive RS where
  | next (L : Sl) | ret (o : O) (L : Sl) | brk (L : Sl) | cont (L : Sl) | exc (c : Str) (L : Sl) | stuck
inductive OwS (tg : Tg) (K : PySem.W.Frag) (mg : Str → Option Value) (F H : Hp) : L2.St → Sl → List Addr → Prop
  | nil : OwS tg K mg F H [] [] []
  | none {x : Option V} {σ : L2.St} {L : Sl} {A : List Addr} : OwS tg K mg F H σ L A → OwS tg K mg F H (x :: σ) (none :: L) A
  | some {v : V} {o : O} {σ : L2.St} {L : Sl} {A B : List Addr} : Ow tg K mg F H v o A → OwS tg K mg F H σ L B → OwS tg K mg F H (some v :: σ) (some o :: L) (A ++ B)
section
variable {tg : Tg} {K : PySem.W.Frag} {mg : Str → Option Value} {F F' H H' : Hp}
theorem OwS.mono (s : Same F F') : ∀ {σ : L2.St} {L : Sl} {A : List Addr}, (∀ a ∈ A, H' a = H a) → OwS tg K mg F H σ L A → OwS tg K mg F' H' σ L A
  | _, _, _, _, .nil => .nil
  | _, _, _, h, .none t => .none (OwS.mono s h t)
  | _, _, _, h, .some r t => .some (Ow.mono s (fun a m => h a (List.mem_append_left _ m)) r) (OwS.mono s (fun a m => h a (List.mem_append_right _ m)) t)
theorem OwS.len : ∀ {σ : L2.St} {L : Sl} {A : List Addr}, OwS tg K mg F H σ L A → σ.length = L.length
  | _, _, _, .nil => rfl
  | _, _, _, .none t => congrArg (· + 1) (OwS.len t)
  | _, _, _, .some _ t => congrArg (· + 1) (OwS.len t)
theorem OwS.tracked : ∀ {σ : L2.St} {L : Sl} {A : List Addr}, OwS tg K mg F H σ L A → ∀ a ∈ A, ∃ u, H a = Option.some u
  | _, _, _, .nil => fun _ m => nomatch m
  | _, _, _, .none t => OwS.tracked t
  | _, _, _, .some r t => fun a m => by
    rcases List.mem_append.mp m with m | m
    · exact Ow.some r a m
    · exact OwS.tracked t a m
theorem OwS.mut : ∀ {σ : L2.St} {L : Sl} {A : List Addr}, OwS tg K mg F H σ L A → ∀ a ∈ A, ∃ u, H a = Option.some u ∧ MutO u
  | _, _, _, .nil => fun _ m => nomatch m
  | _, _, _, .none t => OwS.mut t
  | _, _, _, .some r t => fun a m => (List.mem_append.mp m).elim (Ow.mut r a) (OwS.mut t a)
theorem OwS.get : ∀ {σ : L2.St} {L : Sl} {A : List Addr} {i : Nat} {o : O}, OwS tg K mg F H σ L A → L[i]? = Option.some (Option.some o) →
    ∃ v A1 Ai A2, σ[i]? = Option.some (Option.some v) ∧ Ow tg K mg F H v o Ai ∧ A = A1 ++ Ai ++ A2 ∧
      ∀ (F' H' : Hp) (v' : V) (o' : O) (Ai' : List Addr), Same F F' → (∀ a, a ∈ A1 ∨ a ∈ A2 → H' a = H a) → Ow tg K mg F' H' v' o' Ai' → OwS tg K mg F' H' (σ.set i (Option.some v')) (L.set i (Option.some o')) (A1 ++ Ai' ++ A2)
  | _, _, _, i, o, .nil, h => by simp at h
  | _, _, _, 0, o, .none t, h => by simp at h
  | _, _, _, i + 1, o, .none t, h => by
    obtain ⟨v, A1, Ai, A2, h1, h2, h3, h4⟩ := OwS.get (i := i) t (by simpa using h)
    exact ⟨v, A1, Ai, A2, by simpa using h1, h2, h3, fun F' H' v' o' Ai' a b c => .none (h4 F' H' v' o' Ai' a b c)⟩
  | _, _, _, 0, o, .some (A := A0) (B := B0) r t, h => by
    simp at h; subst h
    refine ⟨_, [], A0, B0, rfl, r, by simp, fun F' H' v' o' Ai' a b c => ?_⟩
    exact .some c (OwS.mono a (fun a m => b a (Or.inr m)) t)
  | _, _, _, i + 1, o, .some (A := A0) r t, h => by
    obtain ⟨v, A1, Ai, A2, h1, h2, h3, h4⟩ := OwS.get (i := i) t (by simpa using h)
    refine ⟨v, A0 ++ A1, Ai, A2, by simpa using h1, h2, by rw [h3]; simp, fun F' H' v' o' Ai' a b c => ?_⟩
    have := OwS.some (Ow.mono a (fun x m => b x (Or.inl (List.mem_append_left _ m))) r) (h4 F' H' v' o' Ai' a (fun x m => b x (m.imp (fun z => List.mem_append_right _ z) id)) c)
    simpa using this
theorem OwS.take : ∀ {σ : L2.St} {L : Sl} {A : List Addr} {i : Nat} {o : O}, OwS tg K mg F H σ L A → L[i]? = Option.some (Option.some o) →
    ∃ v A1 Ai A2, σ[i]? = Option.some (Option.some v) ∧ Ow tg K mg F H v o Ai ∧ A = A1 ++ Ai ++ A2 ∧ OwS tg K mg F H σ (L.set i Option.none) (A1 ++ A2)
  | _, _, _, i, o, .nil, h => by simp at h
  | _, _, _, 0, o, .none t, h => by simp at h
  | _, _, _, i + 1, o, .none t, h => by
    obtain ⟨v, A1, Ai, A2, h1, h2, h3, h4⟩ := OwS.take (i := i) t (by simpa using h)
    exact ⟨v, A1, Ai, A2, by simpa using h1, h2, h3, .none h4⟩
  | _, _, _, 0, o, .some (A := A0) (B := B0) r t, h => by
    simp at h; subst h
    exact ⟨_, [], A0, B0, rfl, r, by simp, .none t⟩
  | _, _, _, i + 1, o, .some (A := A0) r t, h => by
    obtain ⟨v, A1, Ai, A2, h1, h2, h3, h4⟩ := OwS.take (i := i) t (by simpa using h)
    exact ⟨v, A0 ++ A1, Ai, A2, by simpa using h1, h2, by rw [h3]; simp, by rw [List.append_assoc]; exact .some r h4⟩
theorem OwS.put : ∀ {σ : L2.St} {L : Sl} {A : List Addr} {i : Nat} {v : V} {o : O} {B : List Addr}, OwS tg K mg F H σ L A → i < L.length → Ow tg K mg F H v o B →
    ∃ A', OwS tg K mg F H (σ.set i (Option.some v)) (L.set i (Option.some o)) A' ∧ (∀ a ∈ A', a ∈ A ∨ a ∈ B) ∧ (A.Nodup → B.Nodup → (∀ a ∈ B, a ∉ A) → A'.Nodup)
  | _, _, _, i, v, o, B, .nil, h, r => by simp at h
  | _, _, _, 0, v, o, B, .none (A := A0) t, h, r => by
    refine ⟨B ++ A0, .some r t, fun a m => (List.mem_append.mp m).symm, fun n1 n2 d => ?_⟩
    exact List.nodup_append.mpr ⟨n2, n1, fun a ha b hb e => d a ha (e ▸ hb)⟩
  | _, _, _, i + 1, v, o, B, .none (A := A0) t, h, r => by
    obtain ⟨A', h1, h2, h3⟩ := OwS.put (i := i) t (by simpa using h) r
    exact ⟨A', .none h1, h2, h3⟩
  | _, _, _, 0, v, o, B, .some (A := A0) (B := B0) q t, h, r => by
    refine ⟨B ++ B0, .some r t, fun a m => ?_, fun n1 n2 d => ?_⟩
    · rcases List.mem_append.mp m with m | m
      · exact .inr m
      · exact .inl (List.mem_append_right _ m)
    · exact List.nodup_append.mpr ⟨n2, (List.nodup_append.mp n1).2.1, fun a ha b hb e => d a ha (List.mem_append_right _ (e ▸ hb))⟩
  | _, _, _, i + 1, v, o, B, .some (A := A0) (B := B0) q t, h, r => by
    obtain ⟨A', h1, h2, h3⟩ := OwS.put (i := i) t (by simpa using h) r
    refine ⟨A0 ++ A', .some q h1, fun a m => ?_, fun n1 n2 d => ?_⟩
    · rcases List.mem_append.mp m with m | m
      · exact .inl (List.mem_append_left _ m)
      · exact (h2 a m).imp (List.mem_append_right _) id
    · obtain ⟨m1, m2, m3⟩ := List.nodup_append.mp n1
      refine List.nodup_append.mpr ⟨m1, h3 m2 n2 (fun a ha z => d a ha (List.mem_append_right _ z)), fun a ha b hb e => ?_⟩
      rcases h2 b hb with z | z
      · exact m3 a ha b z e
      · exact d b z (List.mem_append_left _ (e ▸ ha))
theorem OwS.drop : ∀ {σ : L2.St} {L : Sl} {A : List Addr} (i : Nat) (x : Option V), OwS tg K mg F H σ L A →
    ∃ A', OwS tg K mg F H (σ.set i x) (L.set i Option.none) A' ∧ (∀ a ∈ A', a ∈ A) ∧ (A.Nodup → A'.Nodup)
  | _, _, _, i, x, .nil => ⟨[], by simpa using OwS.nil, fun _ m => m, id⟩
  | _, _, _, 0, x, .none (A := A0) t => ⟨A0, .none t, fun _ m => m, id⟩
  | _, _, _, i + 1, x, .none t => by
    obtain ⟨A', h1, h2, h3⟩ := OwS.drop i x t
    exact ⟨A', .none h1, h2, h3⟩
  | _, _, _, 0, x, .some (B := B0) q t => ⟨B0, .none t, fun a m => List.mem_append_right _ m, fun n => (List.nodup_append.mp n).2.1⟩
  | _, _, _, i + 1, x, .some (A := A0) q t => by
    obtain ⟨A', h1, h2, h3⟩ := OwS.drop i x t
    refine ⟨A0 ++ A', .some q h1, fun a m => ?_, fun n => ?_⟩
    · rcases List.mem_append.mp m with m | m
      · exact List.mem_append_left _ m
      · exact List.mem_append_right _ (h2 a m)
    · obtain ⟨m1, m2, m3⟩ := List.nodup_append.mp n
      exact List.nodup_append.mpr ⟨m1, h3 m2, fun a ha b hb e => m3 a ha b (h2 b hb) e⟩
end
structure Gd where
  P : Program
  w : World
  K : PySem.W.Frag
  mg : Str → Option Value
  base : Heap
  t : Nat → Addr × Nat := fun _ => (0, 0)
  T : List (Addr × Str) := []
def Gd.tg (G : Gd) : Tg := ⟨G.P, G.w, G.t⟩
abbrev Gd.wt (G : Gd) (t : Nat → Addr × Nat) : Gd := { G with t := t }
theorem mutO_ntbl {u : HO} (h : MutO u) : ∀ ps, u ≠ .tbl ps := fun ps z => by subst z; exact h
structure Kp (G : Gd) (H H' : Hp) : Prop where
  at' : ∀ a o, H a = some o → (n : ∀ ps, o ≠ .tbl ps := by first | exact fun _ z => nomatch z | assumption | exact Eng.mutO_ntbl (by assumption)) → H' a = some o
  tb : ∀ a ps, H a = some (.tbl ps) → ∃ ps', H' a = some (.tbl ps')
  tt : LamX.Tabs G.T H → LamX.Tabs G.T H'
theorem Kp.of {G : Gd} {H H' : Hp} (s : Same H H') : Kp G H H' := ⟨fun a o e _ => s a o e, fun a ps e => ⟨ps, s _ _ e⟩, fun t => t.ext s⟩
theorem Kp.refl {G : Gd} (H : Hp) : Kp G H H := .of (.refl _)
theorem Kp.trans {G : Gd} {H H1 H2 : Hp} (a : Kp G H H1) (b : Kp G H1 H2) : Kp G H H2 :=
  ⟨fun x o e n => b.at' x o (a.at' x o e n) n, fun x ps e => by obtain ⟨ps', e'⟩ := a.tb x ps e; exact b.tb x ps' e', fun t => b.tt (a.tt t)⟩
theorem Kp.free {G : Gd} {H H' : Hp} (s : Kp G H H') {a : Addr} (h : H' a = none) : H a = none := by
  cases e : H a with
  | none => rfl
  | some o =>
    by_cases n : ∃ ps, o = .tbl ps
    · obtain ⟨ps, rfl⟩ := n
      obtain ⟨ps', e'⟩ := s.tb a ps e
      rw [h] at e'; cases e'
    · have := s.at' a o e (fun ps z => n ⟨ps, z⟩)
      rw [h] at this; cases this
theorem codeO_nE {g : Tg} {a c : Addr} {q : Str} {kvs : List (Key × V)} {ep : Nat} : (HO.ext (DictE g a kvs ep)) ≠ LamX.CodeO c q := fun z => by
  have e : DictE g a kvs ep = fun h => ∃ (oc : Obj) (vs : Array Value) (t : Tok), h.get? c = some oc ∧ oc.data = .fields vs ∧ vs[1]? = some (.str q t) := by
    unfold LamX.CodeO at z
    injection z
  obtain ⟨co, hco⟩ : ∃ co : Obj, co = ⟨.none, none, .fields #[.none, .str q default], #[]⟩ := ⟨_, rfl⟩
  have g1 : ∀ x : Addr, (⟨Array.replicate (c + 1) co, {}⟩ : Heap).get? x = some co ∨ (⟨Array.replicate (c + 1) co, {}⟩ : Heap).get? x = none := fun x => by
    unfold Heap.get?
    by_cases h : x < c + 1
    · left
      have : (Array.replicate (c + 1) co)[x]? = some co := by simp [h]
      dsimp only
      rw [this, hco]
    · right
      have : (Array.replicate (c + 1) co)[x]? = none := by
        rw [Array.getElem?_eq_none]
        rw [Array.size_replicate]
        exact Nat.le_of_not_lt h
      dsimp only
      rw [this]
  have gc : (⟨Array.replicate (c + 1) co, {}⟩ : Heap).get? c = some co := by
    unfold Heap.get?
    have : (Array.replicate (c + 1) co)[c]? = some co := by simp
    dsimp only
    rw [this, hco]
  have h2 : DictE g a kvs ep ⟨Array.replicate (c + 1) co, {}⟩ := by
    rw [e]
    exact ⟨co, _, _, gc, by rw [hco], rfl⟩
  obtain ⟨_, o, es, h3, h4⟩ := h2
  rcases g1 a with h | h
  · rw [h] at h3
    cases h3
    rw [hco] at h4
    cases h4
  · rw [h] at h3; cases h3
theorem mutO_nC {u : HO} (h : MutO u) {c : Addr} {q : Str} : u ≠ LamX.CodeO c q := fun z => by
  subst z
  obtain ⟨g, a, kvs, ep, e⟩ := (show ∃ g a kvs ep, _ = DictE g a kvs ep from h)
  exact codeO_nE (g := g) (a := a) (kvs := kvs) (ep := ep) (by rw [← e]; rfl)
theorem tabs_upd {T : List (Addr × Str)} {H : Hp} {a : Addr} {o : HO} (t : LamX.Tabs T H) (h : ∀ u, H a = some u → MutO u) : LamX.Tabs T (upd H a o) := fun p hp => by
  obtain ⟨ps, h1, h2, h3⟩ := t p hp
  refine ⟨ps, ?_, h2, fun pos cv hc => ?_⟩
  · rw [upd_ne (fun z => ?_)]; exact h1
    subst z; exact mutO_ntbl (h _ h1) _ rfl
  · obtain ⟨c, e1, e2⟩ := h3 pos cv hc
    refine ⟨c, e1, ?_⟩
    rw [upd_ne (fun z => ?_)]; exact e2
    subst z; exact mutO_nC (h _ e2) rfl
theorem tabs_less {T : List (Addr × Str)} {H H' : Hp} (t : LamX.Tabs T H) (h : ∀ a u, H a = some u → ¬ MutO u → H' a = some u) : LamX.Tabs T H' := fun p hp => by
  obtain ⟨ps, h1, h2, h3⟩ := t p hp
  refine ⟨ps, h _ _ h1 (fun z => mutO_ntbl z _ rfl), h2, fun pos cv hc => ?_⟩
  obtain ⟨c, e1, e2⟩ := h3 pos cv hc
  exact ⟨c, e1, h _ _ e2 (fun z => mutO_nC z rfl)⟩
def Nt (H : Hp) (a : Addr) : Prop := H a ≠ none ∧ ∀ xs, H a ≠ some (.tup xs)
theorem nt_of {H : Hp} {a : Addr} {u : HO} (e : H a = some u) (h : ∀ xs, u ≠ .tup xs) : Nt H a := ⟨fun z => (nomatch e.symm.trans z), fun xs z => h xs (Option.some.inj (e.symm.trans z))⟩
theorem nt_mono {G : Gd} {H H' : Hp} {a : Addr} (s : Kp G H H') (n : Nt H a) : Nt H' a := by
  cases e : H a with
  | none => exact absurd e n.1
  | some u =>
    by_cases k : ∃ ps, u = .tbl ps
    · obtain ⟨ps, rfl⟩ := k
      obtain ⟨ps', e'⟩ := s.tb _ _ e
      exact nt_of e' fun xs z => nomatch z
    · exact nt_of (s.at' _ _ e (fun ps z => k ⟨ps, z⟩)) fun xs z => n.2 xs (by rw [e, z])
structure Bd where
  h : Hp
  p : List (Nat × Addr)
def isPin (L : Sl) (i : Nat) : Bool := match L[i]? with | some (some (.mi p _ _)) => p | some (some (.pin _)) => true | _ => false
def okSet (L : Sl) (i : Nat) : Bool := decide (i < L.length) && !isPin L i
theorem okSet_of {L : Sl} {i : Nat} (h : okSet L i = true) : i < L.length ∧ isPin L i = false := by
  unfold okSet at h
  rw [Bool.and_eq_true] at h
  exact ⟨of_decide_eq_true h.1, by simpa using h.2⟩
structure Tb0 (G : Gd) (h F0 : Hp) : Prop where
  t : LamX.Tabs G.T h
  f : ∀ p ∈ G.T, F0 p.1 = none
structure Kb (G : Gd) (B F0 H : Hp) : Prop where
  kp : Kp G B H
  tb : Tb0 G B F0
theorem Kb.trans {G : Gd} {B F0 H H' : Hp} (a : Kb G B F0 H) (b : Kp G H H') : Kb G B F0 H' := ⟨a.kp.trans b, a.tb⟩
theorem Kp.wt {G : Gd} {H H' : Hp} (h : Kp G H H') (t : Nat → Addr × Nat) : Kp (G.wt t) H H' := ⟨fun a o e n => h.at' a o e n, h.tb, h.tt⟩
theorem Kb.wt {G : Gd} {B F0 H : Hp} (h : Kb G B F0 H) (t : Nat → Addr × Nat) : Kb (G.wt t) B F0 H := ⟨h.kp.wt t, ⟨h.tb.t, h.tb.f⟩⟩
theorem Kb.free {G : Gd} {B F0 H : Hp} (s : Kb G B F0 H) {a : Addr} (h : H a = none) : B a = none := s.kp.free h
theorem Kp.upd {G : Gd} {B H : Hp} (s : Kp G B H) {a : Addr} {o : HO} (h : B a = none) (m : ∀ u, H a = some u → MutO u) : Kp G B (L2.upd H a o) :=
  ⟨fun b u e n => by rw [upd_ne (ne_of_none e h)]; exact s.at' b u e n, fun b ps e => by rw [upd_ne (ne_of_none e h)]; exact s.tb b ps e, fun t => tabs_upd (s.tt t) m⟩
theorem mut_at {H : Hp} {a : Addr} {o : HO} (e : H a = some o) (m : MutO o) : ∀ u, H a = some u → MutO u := fun u h => by rw [e] at h; cases h; exact m
theorem Kb.upd {G : Gd} {B F0 H : Hp} (s : Kb G B F0 H) {a : Addr} {o : HO} (h : B a = none) (m : ∀ u, H a = some u → MutO u) : Kb G B F0 (upd H a o) :=
  ⟨⟨fun b u e n => by rw [upd_ne (ne_of_none e h)]; exact s.kp.at' b u e n, fun b ps e => by rw [upd_ne (ne_of_none e h)]; exact s.kp.tb b ps e, fun t => tabs_upd (s.kp.tt t) m⟩, s.tb⟩
theorem Kp.mut {G : Gd} {B H H' : Hp} {A : List Addr} (s : Kp G B H) (hk : ∀ x, x ∉ A → (∃ u, H x = some u) → H' x = H x) (hB : ∀ a ∈ A, B a = none) (hM : ∀ a ∈ A, ∃ u, H a = some u ∧ MutO u) : Kp G B H' := by
  have out : ∀ b, B b ≠ none → b ∉ A := fun b h m => h (hB b m)
  refine ⟨fun b u e n => ?_, fun b ps e => ?_, fun t => tabs_less (s.tt t) fun b u e m => ?_⟩
  · have h1 := s.at' b u e n
    rw [hk b (out b (by rw [e]; simp)) ⟨u, h1⟩]; exact h1
  · obtain ⟨ps', h1⟩ := s.tb b ps e
    exact ⟨ps', by rw [hk b (out b (by rw [e]; simp)) ⟨_, h1⟩]; exact h1⟩
  · rw [hk b (fun ha => ?_) ⟨u, e⟩]; exact e
    obtain ⟨u', e', m'⟩ := hM b ha
    rw [e] at e'; cases e'; exact m m'
theorem Kb.mut {G : Gd} {B F0 H H' : Hp} {A : List Addr} (s : Kb G B F0 H) (hk : ∀ x, x ∉ A → (∃ u, H x = some u) → H' x = H x) (hB : ∀ a ∈ A, B a = none) (hM : ∀ a ∈ A, ∃ u, H a = some u ∧ MutO u) : Kb G B F0 H' := ⟨s.kp.mut hk hB hM, s.tb⟩
theorem Kb.new {G : Gd} {B F0 H : Hp} (s : Kb G B F0 H) {a : Addr} {o : HO} (h : H a = none) : Kb G B F0 (L2.upd H a o) := s.upd (s.free h) (fun u e => by rw [h] at e; cases e)
theorem Kp.new {G : Gd} {H : Hp} {a : Addr} {o : HO} (h : H a = none) : Kp G H (L2.upd H a o) := .of fun b u e => by rw [upd_ne (ne_of_none e h)]; exact e
structure Rl (G : Gd) (B : Bd) (F0 : Hp) (L : Sl) (F : Hp) (A : List Addr) (σ : L2.St) (H : Hp) : Prop where
  os : OwS G.tg G.K G.mg F H σ L A
  nd : A.Nodup
  sf : Same F H
  f0 : Same F0 F
  sb : Kb G B.h F0 H
  fb : ∀ a, F0 a = none → Nt B.h a → F a = none
  fa : ∀ a ∈ A, F a = none ∧ B.h a = none
  pn : ∀ q ∈ B.p, σ[q.1]? = some (some (.ref q.2)) ∧ isPin L q.1 = true
def Rel (G : Gd) (B : Bd) (F0 F : Hp) (L : Sl) (σ : L2.St) (H : Hp) : Prop := ∃ F' A', Same F F' ∧ Rl G B F0 L F' A' σ H
theorem pin_set {L : Sl} {i j : Nat} {x : Option O} (h : isPin L i = false) (hj : isPin L j = true) : i ≠ j ∧ isPin (L.set i x) j = true := by
  have : i ≠ j := fun e => by rw [e, hj] at h; cases h
  refine ⟨this, ?_⟩
  unfold isPin at hj ⊢
  rw [List.getElem?_set_ne this]; exact hj
section
variable {G : Gd} {B : Bd} {F0 F H : Hp} {L : Sl} {A : List Addr} {σ : L2.St}
theorem pn_set {i : Nat} {x : Option O} {y : Option V} (hp : isPin L i = false) (h : ∀ q ∈ B.p, σ[q.1]? = some (some (.ref q.2)) ∧ isPin L q.1 = true) : ∀ q ∈ B.p, (σ.set i y)[q.1]? = some (some (.ref q.2)) ∧ isPin (L.set i x) q.1 = true := fun q m => by
  obtain ⟨h1, h2⟩ := h q m
  obtain ⟨n, h3⟩ := pin_set (x := x) hp h2
  exact ⟨by rw [List.getElem?_set_ne n]; exact h1, h3⟩
theorem Rl.frz (R : Rl G B F0 L F A σ H) {p : Addr} (o : HO) (hp : H p = none) : Same F (upd F p o) ∧ Rl G B F0 L (upd F p o) A σ (upd H p o) := by
  have pF : F p = none := R.sf.free hp
  have pA : p ∉ A := fun m => by obtain ⟨u, e⟩ := R.os.tracked p m; rw [hp] at e; cases e
  have s1 : Same F (upd F p o) := fun a u e => by rw [upd_ne (ne_of_none e pF)]; exact e
  refine ⟨s1, R.os.mono s1 (fun a m => upd_ne (fun e => pA (e ▸ m))), R.nd, fun a u e => ?_, R.f0.trans s1, R.sb.new hp, fun a h0 h1 => ?_, fun a m => ?_, R.pn⟩
  · by_cases h : a = p
    · subst h; rw [upd_same] at e ⊢; exact e
    · rw [upd_ne h] at e ⊢; exact R.sf _ _ e
  · have : a ≠ p := fun e => h1.1 (e ▸ R.sb.free hp)
    rw [upd_ne this]; exact R.fb a h0 h1
  · rw [upd_ne (fun (e : a = p) => pA (e ▸ m))]; exact R.fa a m
theorem Rl.grow (R : Rl G B F0 L F A σ H) {F' H' : Hp} (sH : Kp G H H') (sF : Same F F') (le : Same F' H') (hf : ∀ a, F a = none → Nt H a → F' a = none) : Rl G B F0 L F' A σ H' := by
  refine ⟨R.os.mono sF (fun a m => ?_), R.nd, le, R.f0.trans sF, R.sb.trans sH, fun a h0 h1 => ?_, fun a m => ⟨?_, (R.fa a m).2⟩, R.pn⟩
  · obtain ⟨u, e, mu⟩ := R.os.mut a m
    rw [e]; exact sH.at' _ _ e (mutO_ntbl mu)
  · exact hf a (R.fb a h0 h1) (nt_mono R.sb.kp h1)
  · obtain ⟨u, e, mu⟩ := R.os.mut a m
    exact hf a (R.fa a m).1 (nt_of e fun xs z => by subst z; exact mu)
theorem Rl.tb0 (R : Rl G B F0 L F A σ H) : Tb0 G H F := ⟨R.sb.kp.tt R.sb.tb.t, fun p hp => by
  obtain ⟨ps, h1, _⟩ := R.sb.tb.t p hp
  exact R.fb p.1 (R.sb.tb.f p hp) (nt_of h1 fun xs z => nomatch z)⟩
theorem Rl.set (R : Rl G B F0 L F A σ H) {i : Nat} {v : V} {d : D} (hi : i < L.length) (hp : isPin L i = false) (r : Rp G.K G.mg F v d) : ∃ A', Rl G B F0 (L.set i (some (.v d))) F A' (σ.set i (some v)) H := by
  obtain ⟨A', h1, h2, h3⟩ := R.os.put hi (.v r)
  have hs : ∀ a ∈ A', a ∈ A := fun a m => (h2 a m).elim id fun z => nomatch z
  exact ⟨A', h1, h3 R.nd List.nodup_nil (fun _ z => nomatch z), R.sf, R.f0, R.sb, R.fb, fun a m => R.fa a (hs a m), pn_set hp R.pn⟩
theorem Rl.set' (R : Rl G B F0 L F A σ H) {i : Nat} {v : V} {d : D} (hi : i < L.length) (hp : isPin L i = false) (r : Rp G.K G.mg F v d) : ∃ A', (∀ a ∈ A', a ∈ A) ∧ Rl G B F0 (L.set i (some (.v d))) F A' (σ.set i (some v)) H := by
  obtain ⟨A', h1, h2, h3⟩ := R.os.put hi (.v r)
  have hs : ∀ a ∈ A', a ∈ A := fun a m => (h2 a m).elim id fun z => nomatch z
  exact ⟨A', hs, h1, h3 R.nd List.nodup_nil (fun _ z => nomatch z), R.sf, R.f0, R.sb, R.fb, fun a m => R.fa a (hs a m), pn_set hp R.pn⟩
theorem Rl.setO (R : Rl G B F0 L F A σ H) {i : Nat} {v : V} {o : O} {C : List Addr} (hi : i < L.length) (hp : isPin L i = false) (r : Ow G.tg G.K G.mg F H v o C) (nC : C.Nodup) (dC : ∀ a ∈ C, a ∉ A) (fC : ∀ a ∈ C, F a = none ∧ B.h a = none) : ∃ A', Rl G B F0 (L.set i (some o)) F A' (σ.set i (some v)) H := by
  obtain ⟨A', h1, h2, h3⟩ := R.os.put hi r
  exact ⟨A', h1, h3 R.nd nC dC, R.sf, R.f0, R.sb, R.fb, fun a m => (h2 a m).elim (R.fa a) (fC a), pn_set hp R.pn⟩
theorem Rl.drop (R : Rl G B F0 L F A σ H) (i : Nat) (x : Option V) (hp : isPin L i = false) : ∃ A', (∀ a ∈ A', a ∈ A) ∧ Rl G B F0 (L.set i none) F A' (σ.set i x) H := by
  obtain ⟨A', h1, h2, h3⟩ := R.os.drop i x
  exact ⟨A', h2, h1, h3 R.nd, R.sf, R.f0, R.sb, R.fb, fun a m => R.fa a (h2 a m), pn_set hp R.pn⟩
end
def Ret (G : Gd) (B F0 : Hp) (o : O) (v : V) (H : Hp) : Prop := ∃ F A, Same F0 F ∧ Same F H ∧ Kp G B H ∧ (∀ a, F0 a = none → Nt B a → F a = none) ∧ Ow G.tg G.K G.mg F H v o A ∧ A.Nodup ∧ ∀ a ∈ A, F a = none ∧ B a = none
def RetS (G : Gd) (B : Bd) (F0 F : Hp) (o : O) (L : Sl) (v : V) (H : Hp) : Prop := ∃ F' A' C σ', Same F F' ∧ Rl G B F0 L F' A' σ' H ∧ Ow G.tg G.K G.mg F' H v o C ∧ C.Nodup ∧ ∀ a ∈ C, F' a = none ∧ B.h a = none ∧ a ∉ A'
theorem RetS.ret {G : Gd} {B : Bd} {F0 F : Hp} {o : O} {L : Sl} {v : V} {H : Hp} (h : RetS G B F0 F o L v H) : Ret G B.h F0 o v H := by
  obtain ⟨F', A', C, σ', s, R, ow, nC, fC⟩ := h
  exact ⟨F', C, R.f0, R.sf, R.sb.kp, R.fb, ow, nC, fun a m => ⟨(fC a m).1, (fC a m).2.1⟩⟩
def spV (G : Gd) (fn : List D → R O) : Sp := fun vs H Q E => ∃ F0 ds, Same F0 H ∧ Tb0 G H F0 ∧ RpA G.K G.mg F0 vs ds ∧
  match fn ds with
  | .ok o => ∀ v H', Ret G H F0 o v H' → Q v H'
  | .exc c => ∃ C, G.mg c = some (.ref C) ∧ ∀ H', Kp G H H' → Same F0 H' → E (.ref C) none H'
  | .stuck => False
structure FE where
  name : Str
  k : Nat
  ar : Nat
  fn : List D → R O
def FnX (G : Gd) (e : FE) : Prop := ∃ f fd ps, ps.length = e.ar ∧ G.mg e.name = some (.ref f) ∧ PySem.W.keepIn G.K (.ref f) = true ∧ Binds G.K fd ps [] ∧ FnOk G.P G.w G.K G.mg G.base (L2.CX G.P G.w) e.k f fd ps (spV G e.fn)
inductive RL where
  | ok (o : O) (ls : List O) | exc (c : Str) (ls : List O) | stuck
def lentV : List V → List (Bool × O) → List V
  | v :: vs, (true, _) :: xs => v :: lentV vs xs
  | _ :: vs, (false, _) :: xs => lentV vs xs
  | _, _ => []
def less (F : Hp) (A : List Addr) : Hp := fun a => if a ∈ A then none else F a
def RetL (G : Gd) (B F0 : Hp) (os : List O) (vs : List V) (H : Hp) : Prop := ∃ F A, Same F0 F ∧ Same F H ∧ Kp G B H ∧ (∀ a, F0 a = none → Nt B a → F a = none) ∧ OwA G.tg G.K G.mg F H vs os A ∧ A.Nodup ∧ ∀ a ∈ A, F a = none ∧ B a = none
def spL (G : Gd) (fn : List (Bool × O) → RL) : Sp := fun vs H Q E => ∃ F0 xs A, Same F0 H ∧ Tb0 G H F0 ∧ OwA G.tg G.K G.mg F0 H vs (xs.map (·.2)) A ∧ A.Nodup ∧ (∀ a ∈ A, F0 a = none) ∧
  match fn xs with
  | .ok o ls => ∀ v H', RetL G (less H A) F0 (o :: ls) (v :: lentV vs xs) H' → Q v H'
  | .exc c ls => ∃ C, G.mg c = some (.ref C) ∧ ∀ H', RetL G (less H A) F0 ls (lentV vs xs) H' → E (.ref C) none H'
  | .stuck => False
structure FL where
  name : Str
  k : Nat
  ar : Nat
  fn : List (Bool × O) → RL
def FlX (G : Gd) (e : FL) : Prop := ∃ f fd ps, ps.length = e.ar ∧ G.mg e.name = some (.ref f) ∧ PySem.W.keepIn G.K (.ref f) = true ∧ Binds G.K fd ps [] ∧ FnOk G.P G.w G.K G.mg G.base (L2.CX G.P G.w) e.k f fd ps (spL G e.fn)
structure ML where
  cls : Str
  name : Str
  k : Nat
  ar : Nat
  fn : List (Bool × O) → RL
def MlX (G : Gd) (e : ML) : Prop := ∃ C f fd ps, ps.length = e.ar ∧ G.mg e.cls = some (.ref C) ∧ Cls G.K C ∧ Meth G.K C e.name f ∧ Binds G.K fd ps [] ∧ FnOk G.P G.w G.K G.mg G.base (L2.CX G.P G.w) e.k f fd ps (spL G e.fn)
structure CN where
  name : Str
  k : Nat
  ar : Nat
  fn : List D → R O
def spI (G : Gd) (C : Addr) (fn : List D → R O) : Sp := fun vs H Q E => ∃ (x dx : Addr) (us : List V) (ds : List D) (F0 H0 : Hp), vs = .ref x :: us ∧ H = upd (upd H0 dx (.own x)) x (.ins C dx []) ∧ H0 x = none ∧ H0 dx = none ∧ dx ≠ x ∧ Same F0 H0 ∧ Tb0 G H0 F0 ∧ RpA G.K G.mg F0 us ds ∧
  match fn ds with
  | .ok o => ∀ H', Ret G H0 F0 o (.ref x) H' → Q .non H'
  | .exc c => ∃ C, G.mg c = some (.ref C) ∧ ∀ H', Kp G H0 H' → Same F0 H' → E (.ref C) none H'
  | .stuck => False
def MkX (G : Gd) (e : CN) : Prop := ∃ C f fd ps, G.mg e.name = some (.ref C) ∧ Mk G.K C f ∧ Binds G.K fd ps [] ∧ FnOk G.P G.w G.K G.mg G.base (L2.CX G.P G.w) e.k f fd ps (spI G C e.fn)
structure Gm where
  N : List Str
  sc : Scope
  T : List FE
  X : List Str
  C : List (Str × D)
  k : Nat
  st : Str → Bool
  E : List Str
  I : List (Str × List Str)
  Q : List CN
  M : List (Str × Str × Bool) := []
  Ec : List Str := []
  cm : Bool := true
  tp : Bool := true
  Is : List Str := []
  TL : List FL := []
  TM : List ML := []
  lq : Option Str := none
def ExcF (G : Gd) (c : Str) : Prop := ∃ C, G.mg c = some (.ref C) ∧ PySem.W.excIn G.K C [.type "ValueError", .type "Exception", .type "BaseException", .type "object"] "ValueError.__new__" = true ∧ PySem.W.keepIn G.K (.ref C) = true ∧
  PySem.W.subIn G.K (.ref C) (.type "BaseException") = some true ∧ PySem.W.typeIn G.K (.ref C) = some (.type "type")
def NmCls (G : Gd) (h : Str) (cv : Value) : Prop := (∃ C, cv = .ref C ∧ G.mg h = some cv) ∨ (∃ n, cv = .type n ∧ G.mg h = none ∧ bootBuiltins h = some cv ∧ h ≠ "__name__")
structure InsC (K : PySem.W.Frag) (C : Addr) : Prop where
  cl : Cls K C
  ha : PySem.W.findIn K (.ref C) "__class__" = some (some (.builtin "object.__class__"))
  hn : PySem.W.specialIn K (.builtin "object.__class__") "__get__" = some (some (.builtin "getset_descriptor.__get__"))
  ht : PySem.W.takesIn K (.builtin "object.__class__") = some true
  hm : PySem.W.mroIn K C (.type "object") = some true
structure Gm.Gr (Γ : Gm) (G : Gd) : Prop where
  fn : ∀ e ∈ Γ.T, ∀ t, FnX (G.wt t) e
  bl : ∀ x ∈ Γ.X, G.mg x = none
  cs : ∀ p ∈ Γ.C, ∃ u v, G.mg p.1 = some u ∧ RelV v u ∧ ∀ F, Rp G.K G.mg F v p.2
  ex : ∀ c ∈ Γ.E, ExcF G c
  is : ∀ p ∈ Γ.I, ∃ C, G.mg p.1 = some (.ref C) ∧ Cls G.K C ∧ ∀ f ∈ p.2, NoAttr G.K C f
  mkx : ∀ e ∈ Γ.Q, ∀ t, MkX (G.wt t) e
  mt : ∀ p ∈ Γ.M, ∃ C cv, G.mg p.1 = some (.ref C) ∧ NmCls G p.2.1 cv ∧ (∀ D, cv = .ref D → PySem.W.exmOne G.K (.ref C) cv = some p.2.2) ∧ PySem.W.kitOne G.K (.ref C) cv = some p.2.2
  ec : ∀ c ∈ Γ.Ec, ∃ C, G.mg c = some (.ref C) ∧ ExcC G.K C
  isc : ∀ c ∈ Γ.Is, ∃ C v, G.mg c = some (.ref C) ∧ InsC G.K C ∧ RelV v (.ref C) ∧ ClsV v (.ref C)
  fl : ∀ e ∈ Γ.TL, ∀ t, FlX (G.wt t) e
  tm : ∀ e ∈ Γ.TM, ∀ t, MlX (G.wt t) e
theorem Gm.Gr.wt {Γ : Gm} {G : Gd} (gr : Γ.Gr G) (t : Nat → Addr × Nat) : Γ.Gr (G.wt t) := ⟨gr.fn, gr.bl, gr.cs, gr.ex, gr.is, gr.mkx, gr.mt, gr.ec, gr.isc, gr.fl, gr.tm⟩
structure Gm.Ok (Γ : Gm) (G : Gd) (X : Cx) : Prop where
  prog : X.prog = G.P
  w : X.w = G.w
  K : X.K = G.K
  mg : X.mg = G.mg
  base : X.base = G.base
  N : X.N = Γ.N
  nd : Γ.N.Nodup
  sc : X.env.scope = Γ.sc
  kind : X.env.scope.kind = .function
  calm : Γ.cm = true → X.calm = true
  room : Γ.cm = true → Room Γ.k X.A
  un : X.A.units + 200 < cLine
  pass : PassesOwn (model X.prog X.w) X.A X.env X.xe
  fnl : ∀ x, Γ.st x = true → X.fn x = true ∨ X.env.scope.names.lookup x = some .local
  stk : Γ.tp = true → X.stack = X.env :: X.outer ∧ X.env.frame = some X.env.locals
  lm : ∀ q, Γ.lq = some q → X.env.qual ++ "<lambda>" = q ∧ ∃ c P, X.env.code = .ref c ∧ LamX.TabB X.base X.mg c P ∧ (P, q) ∈ G.T ∧ ∀ p ∈ G.T, p.1 = P → p.2 = q

theorem un_of {k : Nat} {A : Around} (r : Room k A) : A.units + 200 < cLine := by have := r.un; omega
structure Grow (G : Gd) (F H F' H' : Hp) : Prop where
  sH : Kp G H H'
  sF : Same F F'
  le : Same F' H'
  hf : ∀ a, F a = none → Nt H a → F' a = none
theorem Grow.refl {G : Gd} {F H : Hp} (h : Same F H) : Grow G F H F H := ⟨.refl _, .refl _, h, fun _ e _ => e⟩
theorem Grow.new {G : Gd} {F H : Hp} (h : Same F H) {p : Addr} (o : HO) (hp : H p = none) : Grow G F H (upd F p o) (upd H p o) := by
  have pF : F p = none := h.free hp
  refine ⟨Kp.new hp, fun a u e => by rw [upd_ne (ne_of_none e pF)]; exact e, fun a u e => ?_, fun a e n => ?_⟩
  · by_cases q : a = p
    · subst q; rw [upd_same] at e ⊢; exact e
    · rw [upd_ne q] at e ⊢; exact h _ _ e
  · rw [upd_ne (fun (z : a = p) => n.1 (z ▸ hp))]; exact e
theorem Grow.trans {G : Gd} {F H F1 H1 F2 H2 : Hp} (a : Grow G F H F1 H1) (b : Grow G F1 H1 F2 H2) : Grow G F H F2 H2 :=
  ⟨a.sH.trans b.sH, a.sF.trans b.sF, b.le, fun x e n => b.hf x (a.hf x e n) (nt_mono a.sH n)⟩
section
variable {G : Gd} {B : Bd} {F0 F H F' H' : Hp} {L : Sl} {A : List Addr} {σ : L2.St}
theorem Rl.gr (R : Rl G B F0 L F A σ H) (g : Grow G F H F' H') : Rl G B F0 L F' A σ H' := R.grow g.sH g.sF g.le g.hf
end
def pG (G : Gd) (W : WX) (σ : L2.St) (F H : Hp) {α : Type} (r : R α) (P : α → Hp → Hp → Prop) : Prop :=
  match r with
  | .ok a => ∀ F' H', Grow G F H F' H' → P a F' H'
  | .exc c => ∃ C, G.mg c = some (.ref C) ∧ ∀ F' H', Grow G F H F' H' → W (.ref C) none σ H'
  | .stuck => False
section
variable {G : Gd} {W : WX} {B : Bd} {F0 F H F1 H1 : Hp} {L : Sl} {A : List Addr} {σ : L2.St} {α β : Type}
theorem pG.mono {r : R α} {P : α → Hp → Hp → Prop} (g : Grow G F H F1 H1) (h : pG G W σ F H r P) : pG G W σ F1 H1 r P := by
  cases r with
  | ok a => exact fun F' H' s' => h F' H' (g.trans s')
  | exc c => obtain ⟨C, e, h⟩ := h; exact ⟨C, e, fun F' H' s' => h F' H' (g.trans s')⟩
  | stuck => exact h
theorem pG.imp {r : R α} {P P' : α → Hp → Hp → Prop} (h : pG G W σ F H r P) (R : Rl G B F0 L F A σ H) (i : ∀ a F' H', Same F F' → Rl G B F0 L F' A σ H' → Grow G F H F' H' → P a F' H' → P' a F' H') : pG G W σ F H r P' := by
  cases r with
  | ok a => exact fun F' H' g => i a F' H' g.sF (R.gr g) g (h F' H' g)
  | exc c => exact h
  | stuck => exact h
theorem pG.bind {r : R α} {k : α → R β} {P : β → Hp → Hp → Prop} (h : pG G W σ F H (r.bind k) P) : pG G W σ F H r fun a F' H' => pG G W σ F' H' (k a) P := by
  cases r with
  | ok a => exact fun F' H' g => pG.mono g h
  | exc c => exact h
  | stuck => exact h
end
def tE (G : Gd) (W : WX) (m : Sl → R D) : TE := fun σ H Q => ∃ B F0 L F A, Rl G B F0 L F A σ H ∧ pG G W σ F H (m L) fun d F' H' => ∀ v, Rp G.K G.mg F' v d → Q v H'
def tT (G : Gd) (W : WX) (m : Sl → R Bool) : TT := fun σ H Q => ∃ B F0 L F A, Rl G B F0 L F A σ H ∧ pG G W σ F H (m L) fun b F' H' => Q b H'
def tA (G : Gd) (W : WX) (m : Sl → R (List D)) : TA := fun σ H Q => ∃ B F0 L F A, Rl G B F0 L F A σ H ∧ pG G W σ F H (m L) fun d F' H' => ∀ v, RpA G.K G.mg F' v d → Q v H'
def tO (G : Gd) (W : WX) (m : Sl → R O) : TE := fun σ H Q => ∃ B F0 L F A, Rl G B F0 L F A σ H ∧ pG G W σ F H (m L) fun o F' H' => ∀ v C, Ow G.tg G.K G.mg F' H' v o C → C.Nodup → (∀ a ∈ C, F' a = none ∧ H a = none) → Q v H'
def pS (G : Gd) (W : WX) (B : Bd) (F0 F : Hp) (r : RS) (D : Ends) : Prop :=
  match r with
  | .next L' => ∀ σ' H', Rel G B F0 F L' σ' H' → D.nx σ' H'
  | .brk L' => ∀ σ' H', Rel G B F0 F L' σ' H' → D.bk σ' H'
  | .cont L' => ∀ σ' H', Rel G B F0 F L' σ' H' → D.ct σ' H'
  | .ret o L' => ∀ v H', RetS G B F0 F o L' v H' → D.rt v H'
  | .exc c L' => ∃ C, G.mg c = some (.ref C) ∧ ∀ σ' H', Rel G B F0 F L' σ' H' → W (.ref C) none σ' H'
  | .stuck => False
def tS (G : Gd) (W : WX) (m : Sl → RS) : TS := fun D σ H => ∃ B F0 L F A, Rl G B F0 L F A σ H ∧ pS G W B F0 F (m L) D
def CE (G : Gd) (Γ : Gm) (e : Expr) (m : Sl → R D) : Prop := ∀ X, Γ.Ok G X → ∀ W, Takes X W → PE X e (tE G W m)
def CT (G : Gd) (Γ : Gm) (e : Expr) (m : Sl → R Bool) : Prop := ∀ X, Γ.Ok G X → ∀ W, Takes X W → PT X e (tT G W m)
def CA (G : Gd) (Γ : Gm) (es : List Expr) (m : Sl → R (List D)) : Prop := ∀ X, Γ.Ok G X → ∀ W, Takes X W → PA X es (tA G W m)
def CO (G : Gd) (Γ : Gm) (e : Expr) (m : Sl → R O) : Prop := ∀ X, Γ.Ok G X → ∀ W, Takes X W → PE X e (tO G W m)
def CS (G : Gd) (Γ : Gm) (s : Stmt) (m : Sl → RS) : Prop := ∀ X, Γ.Ok G X → ∀ W, Takes X W → PS X s (tS G W m)
def CSs (G : Gd) (Γ : Gm) (s : List Stmt) (m : Sl → RS) : Prop := ∀ X, Γ.Ok G X → ∀ W, Takes X W → PSs X s (tS G W m)
theorem PE.imp {X : Cx} {e : Expr} {t t' : TE} (h : PE X e t) (i : ∀ σ H Q, t' σ H Q → t σ H Q) : PE X e t' := ⟨fun pins s σ H Q I q => h.run pins s σ H Q I (i σ H Q q)⟩
theorem PT.imp {X : Cx} {e : Expr} {t t' : TT} (h : PT X e t) (i : ∀ σ H Q, t' σ H Q → t σ H Q) : PT X e t' := ⟨fun pins s σ H Q I q => h.run pins s σ H Q I (i σ H Q q)⟩
theorem PA.imp {X : Cx} {e : List Expr} {t t' : TA} (h : PA X e t) (i : ∀ σ H Q, t' σ H Q → t σ H Q) : PA X e t' := ⟨fun pos pins s σ H Q I q => h.run pos pins s σ H Q I (i σ H Q q)⟩
theorem PS.imp {X : Cx} {e : Stmt} {t t' : TS} (h : PS X e t) (i : ∀ D σ H, t' D σ H → t D σ H) : PS X e t' := ⟨fun pins s σ H Q I q => h.run pins s σ H Q I (i Q σ H q)⟩
theorem PSs.imp {X : Cx} {e : List Stmt} {t t' : TS} (h : PSs X e t) (i : ∀ D σ H, t' D σ H → t D σ H) : PSs X e t' := ⟨fun pins s σ H Q I q => h.run pins s σ H Q I (i Q σ H q)⟩
end Eng
end
section
set_option Elab.async false
set_option linter.all false
set_option maxRecDepth 100000
set_option maxHeartbeats 4000000
namespace Eng
open PySem PySem.Spec PyProof.Rows L2
def lift {α : Type} : Option α → R α | some a => .ok a | none => .stuck
def rV (G : Gd) (f : D → D → Option D) : R2 := fun x y H Q => ∃ F dx dy d, Same F H ∧ Rp G.K G.mg F x dx ∧ Rp G.K G.mg F y dy ∧ f dx dy = some d ∧ ∀ v F' H', Grow G F H F' H' → Rp G.K G.mg F' v d → Q v H'
def Op2 (G : Gd) (f : D → D → Option D) (sem : Value → Value → Sem Value) : Prop := ∀ (X : Cx) (Γ : Gm), Γ.Ok G X → OpR X sem (rV G f)
def m2 (f : D → D → Option D) (ma mb : Sl → R D) : Sl → R D := fun L => (ma L).bind fun x => (mb L).bind fun y => lift (f x y)
section
variable {G : Gd} {Γ : Gm} {W : WX} {σ : L2.St} {H : Hp} {Q : VK} {X : Cx}
theorem two {f : D → D → Option D} {ma mb : Sl → R D} (h : tE G W (m2 f ma mb) σ H Q) : tOp (rV G f) (tE G W ma) (tE G W mb) σ H Q := by
  obtain ⟨B, F0, L, F, A, R, h⟩ := h
  refine ⟨B, F0, L, F, A, R, (pG.bind h).imp R fun dx F1 H1 s1 R1 g1 h1 x rx => ?_⟩
  refine ⟨B, F0, L, F1, A, R1, (pG.bind h1).imp R1 fun dy F2 H2 s2 R2 g2 h2 y ry => ?_⟩
  cases e : f dx dy with
  | none => rw [e] at h2; exact h2.elim
  | some d =>
    rw [e] at h2
    exact ⟨F2, dx, dy, d, R2.sf, rx.mono s2, ry, e, fun v F' H' g r => h2 F' H' g v r⟩
theorem ce_bin {f : D → D → Option D} {op : Operator} {a b : Expr} {ma mb : Sl → R D} {pos : Pos} (ho : Op2 G f (binaryOp op)) (ha : CE G Γ a ma) (hb : CE G Γ b mb) : CE G Γ (.BinOp a op b pos) (m2 f ma mb) :=
  fun X ok W tk => PE.imp (pe_op (ho X Γ ok) (ha X ok W tk) (hb X ok W tk)) fun _ _ _ h => two h
theorem ce_cmp {f : D → D → Option D} {op : CmpOp} {a b : Expr} {ma mb : Sl → R D} {pos : Pos} (ho : Op2 G f (compareOp op)) (hm : behindInMarks op b = false) (ha : CE G Γ a ma) (hb : CE G Γ b mb) : CE G Γ (.Compare a [op] [b] pos) (m2 f ma mb) :=
  fun X ok W tk => PE.imp (pe_cmpR (ho X Γ ok) (ha X ok W tk) (hb X ok W tk) hm) fun _ _ _ h => two h
def asB : D → Option Bool | .bl b => some b | _ => none
theorem Rp.bl_inv {K : PySem.W.Frag} {mg : Str → Option Value} {F : Hp} {v : V} {d : D} {b : Bool} (r : Rp K mg F v d) (e : asB d = some b) : v = .bl b := by
  cases r <;> first | (cases e; done) | (injection e with e; subst e; rfl)
def mB (m : Sl → R D) : Sl → R Bool := fun L => (m L).bind fun d => lift (asB d)
theorem ct_cmp {f : D → D → Option D} {op : CmpOp} {a b : Expr} {ma mb : Sl → R D} {pos : Pos} (ho : Op2 G f (compareOp op)) (hm : behindInMarks op b = false) (ha : CE G Γ a ma) (hb : CE G Γ b mb) : CT G Γ (.Compare a [op] [b] pos) (mB (m2 f ma mb)) := by
  refine fun X ok W tk => PT.imp (pt_cmpR (ho X Γ ok) (ha X ok W tk) (hb X ok W tk) hm) fun σ H Q h => ?_
  obtain ⟨B, F0, L, F, A, R, h⟩ := h
  refine two (Q := fun x H' => ∃ k, x = .bl k ∧ Q k H') ⟨B, F0, L, F, A, R, (pG.bind h).imp R fun d F1 H1 s1 R1 g1 h1 v rv => ?_⟩
  cases e : asB d with
  | none => rw [e] at h1; exact h1.elim
  | some k => rw [e] at h1; exact ⟨k, rv.bl_inv e, h1 F1 H1 (Grow.refl R1.sf)⟩
def plainT : Expr → Bool | .UnaryOp .Not _ _ => false | .BoolOp _ _ _ => false | .IfExp _ _ _ _ => false | .Compare _ _ _ _ => false | _ => true
theorem isTrue_of {e : Expr} (h : plainT e = true) (env : Env) (whole : Sem Value) : isTrue e env whole = (do let v ← whole; standAt e.pos; holding [v] (truthy v)) := by
  cases e <;> first | rfl | (cases h; done) | skip
  rename_i op x pos
  cases op <;> first | rfl | (cases h; done)
theorem ct_val {e : Expr} {m : Sl → R D} (hp : plainT e = true) (h : CE G Γ e m) : CT G Γ e (mB m) := by
  refine fun X ok W tk => PT.imp (pt_val (h X ok W tk) fun _ => isTrue_of hp _ _) fun σ H Q h => ?_
  obtain ⟨B, F0, L, F, A, R, h⟩ := h
  refine ⟨B, F0, L, F, A, R, (pG.bind h).imp R fun d F1 H1 s1 R1 g1 h1 v rv => ?_⟩
  cases e : asB d with
  | none => rw [e] at h1; exact h1.elim
  | some k => rw [e] at h1; exact ⟨k, rv.bl_inv e, h1 F1 H1 (Grow.refl R1.sf)⟩
def mC (d : D) : Sl → R D := fun _ => .ok d
theorem ce_k {e : Expr} {v : V} {d : D} (h : ∀ X : Cx, PE X e (tC v)) (r : ∀ F, Rp G.K G.mg F v d) : CE G Γ e (mC d) :=
  fun X ok W tk => PE.imp (h X) fun σ H Q h => by
    obtain ⟨B, F0, L, F, A, R, h⟩ := h
    exact h F H (Grow.refl R.sf) v (r F)
theorem ce_int {i : Int} {j pos} : CE G Γ (.Constant (.int i) j pos) (mC (.int i)) := ce_k (fun _ => pe_int) fun _ => .int i
theorem ce_str {i : Str} {j pos} : CE G Γ (.Constant (.str i) j pos) (mC (.str i)) := ce_k (fun _ => pe_str) fun _ => .str i
theorem ce_bl {i : Bool} {j pos} : CE G Γ (.Constant (.bool i) j pos) (mC (.bl i)) := ce_k (fun _ => pe_bl) fun _ => .bl i
def mVar (i : Nat) : Sl → R D := fun L => match L[i]? with | some (some (.v d)) => .ok d | _ => .stuck
def visB (sc : Scope) (x : Str) : Bool := match sc.names.lookup x with | some .local => true | some .cell => true | some .free => true | _ => false
theorem vis_of {sc : Scope} {x : Str} (h : visB sc x = true) : Vis sc x := by
  unfold visB at h
  unfold Vis
  split at h <;> simp_all
theorem ce_var {i : Nat} {x : Str} {pos : Pos} (hN : Γ.N[i]? = some x) (hv : visB Γ.sc x = true) (hd : (x == ("__debug__" : Str)) = false) (hcd : (x == ("__classdict__" : Str)) = false) : CE G Γ (.Name x pos) (mVar i) := by
  refine fun X ok W tk => PE.imp (pe_var (i := i) (by rw [ok.N]; exact hN) (by rw [ok.sc]; exact vis_of hv) hd hcd) fun σ H Q h => ?_
  obtain ⟨B, F0, L, F, A, R, h⟩ := h
  unfold mVar at h
  cases e : L[i]? with
  | none => rw [e] at h; exact h.elim
  | some u =>
    cases u with
    | none => rw [e] at h; exact h.elim
    | some o =>
      cases o with
      | v d =>
        rw [e] at h
        obtain ⟨v, A1, Ai, A2, h1, h2, _⟩ := R.os.get e
        cases h2 with
        | v r => exact ⟨v, h1, h F H (Grow.refl R.sf) v r⟩
      | _ => rw [e] at h; exact h.elim
def mAnd (a b : Sl → R Bool) : Sl → R Bool := fun L => (a L).bind fun x => if x = true then b L else .ok false
def mOr (a b : Sl → R Bool) : Sl → R Bool := fun L => (a L).bind fun x => if x = true then .ok true else b L
def mNot (a : Sl → R Bool) : Sl → R Bool := fun L => (a L).bind fun x => .ok (!x)
def CW (G : Gd) (Γ : Gm) (e : Expr) (m : Sl → R Bool) : Prop := ∀ X, Γ.Ok G X → ∀ W, Takes X W → PW X e (tT G W m)
theorem PW.imp {X : Cx} {e : Expr} {t t' : TT} (h : PW X e t) (i : ∀ σ H Q, t' σ H Q → t σ H Q) : PW X e t' := ⟨fun wh pins s σ H Q I q => h.run wh pins s σ H Q I (i σ H Q q)⟩
theorem CW.ct {e : Expr} {m : Sl → R Bool} (h : CW G Γ e m) : CT G Γ e m := fun X ok W tk => (h X ok W tk).pt
variable {a b : Expr} {rest : List Expr} {ma mb mc : Sl → R Bool} {na nb : Sl → R D} {pos : Pos}
theorem cw_and1 (ha : CT G Γ a ma) : CW G Γ (.BoolOp .And [a] pos) ma := fun X ok W tk => pw_and1 (ha X ok W tk)
theorem cw_or1 (ha : CT G Γ a ma) : CW G Γ (.BoolOp .Or [a] pos) ma := fun X ok W tk => pw_or1 (ha X ok W tk)
theorem cw_and (ha : CT G Γ a ma) (hb : CW G Γ (.BoolOp .And (b :: rest) pos) mb) : CW G Γ (.BoolOp .And (a :: b :: rest) pos) (mAnd ma mb) := by
  refine fun X ok W tk => PW.imp (pw_and (ha X ok W tk) (hb X ok W tk)) fun σ H Q h => ?_
  obtain ⟨B, F0, L, F, A, R, h⟩ := h
  refine ⟨B, F0, L, F, A, R, (pG.bind h).imp R fun k F1 H1 s1 R1 g1 h1 => ?_⟩
  cases k with
  | true => exact iteT ⟨B, F0, L, F1, A, R1, h1⟩
  | false => exact iteF (h1 F1 H1 (Grow.refl R1.sf))
theorem cw_or (ha : CT G Γ a ma) (hb : CW G Γ (.BoolOp .Or (b :: rest) pos) mb) : CW G Γ (.BoolOp .Or (a :: b :: rest) pos) (mOr ma mb) := by
  refine fun X ok W tk => PW.imp (pw_or (ha X ok W tk) (hb X ok W tk)) fun σ H Q h => ?_
  obtain ⟨B, F0, L, F, A, R, h⟩ := h
  refine ⟨B, F0, L, F, A, R, (pG.bind h).imp R fun k F1 H1 s1 R1 g1 h1 => ?_⟩
  cases k with
  | false => exact iteF ⟨B, F0, L, F1, A, R1, h1⟩
  | true => exact iteT (h1 F1 H1 (Grow.refl R1.sf))
theorem ct_not (ha : CT G Γ a ma) : CT G Γ (.UnaryOp .Not a pos) (mNot ma) := by
  refine fun X ok W tk => PT.imp (pt_not (ha X ok W tk)) fun σ H Q h => ?_
  obtain ⟨B, F0, L, F, A, R, h⟩ := h
  exact ⟨B, F0, L, F, A, R, (pG.bind h).imp R fun k F1 H1 s1 R1 g1 h1 => h1 F1 H1 (Grow.refl R1.sf)⟩
def vAnd (a b : Sl → R D) : Sl → R D := fun L => (a L).bind fun x => (lift (asB x)).bind fun k => if k = true then b L else .ok (.bl false)
def vOr (a b : Sl → R D) : Sl → R D := fun L => (a L).bind fun x => (lift (asB x)).bind fun k => if k = true then .ok (.bl true) else b L
def vNot (a : Sl → R D) : Sl → R D := fun L => (a L).bind fun x => (lift (asB x)).bind fun k => .ok (.bl (!k))
theorem ce_one {op} (ha : CE G Γ a na) : CE G Γ (.BoolOp op [a] pos) na := fun X ok W tk => pe_one (ha X ok W tk)
theorem ce_and (ha : CE G Γ a na) (hb : CE G Γ (.BoolOp .And (b :: rest) pos) nb) : CE G Γ (.BoolOp .And (a :: b :: rest) pos) (vAnd na nb) := by
  refine fun X ok W tk => PE.imp (pe_and (ha X ok W tk) (hb X ok W tk)) fun σ H Q h => ?_
  obtain ⟨B, F0, L, F, A, R, h⟩ := h
  refine ⟨B, F0, L, F, A, R, (pG.bind h).imp R fun d F1 H1 s1 R1 g1 h1 v rv => ?_⟩
  cases e : asB d with
  | none => rw [e] at h1; exact h1.elim
  | some k =>
    rw [e] at h1
    refine ⟨k, rv.bl_inv e, ?_⟩
    cases k with
    | true => exact iteT ⟨B, F0, L, F1, A, R1, h1⟩
    | false => exact iteF (h1 F1 H1 (Grow.refl R1.sf) _ (.bl false))
theorem ce_not (ha : CE G Γ a na) : CE G Γ (.UnaryOp .Not a pos) (vNot na) := by
  refine fun X ok W tk => PE.imp (pe_not (ha X ok W tk)) fun σ H Q h => ?_
  obtain ⟨B, F0, L, F, A, R, h⟩ := h
  refine ⟨B, F0, L, F, A, R, (pG.bind h).imp R fun d F1 H1 s1 R1 g1 h1 v rv => ?_⟩
  cases e : asB d with
  | none => rw [e] at h1; exact h1.elim
  | some k => rw [e] at h1; exact ⟨k, rv.bl_inv e, h1 F1 H1 (Grow.refl R1.sf) _ (.bl (!k))⟩
def mIf {α : Type} (c : Sl → R Bool) (a b : Sl → R α) : Sl → R α := fun L => (c L).bind fun x => if x = true then a L else b L
def mNil : Sl → R (List D) := fun _ => .ok []
def mCons (a : Sl → R D) (r : Sl → R (List D)) : Sl → R (List D) := fun L => (a L).bind fun x => (r L).bind fun xs => .ok (x :: xs)
def nst : Expr → Bool | .Starred _ _ => false | _ => true
theorem star_cons {e : Expr} {es : List Expr} {env : Env} (h : nst e = true) : starEach (e :: es) env = (false, eval e env) :: starEach es env := by
  cases e <;> first | rfl | (cases h; done)
theorem star_any {pos : Pos} {env : Env} : ∀ {es : List Expr}, es.all nst = true → (backTo pos (starEach es env)).any (·.1) = false
  | [], _ => rfl
  | e :: es, h => by
    rw [List.all_cons, Bool.and_eq_true] at h
    rw [star_cons h.1]
    show (false || (backTo pos (starEach es env)).any (·.1)) = false
    rw [star_any h.2]; rfl
theorem ca_nil : CA G Γ [] mNil := fun X ok W tk => PA.imp pa_nil fun σ H Q h => by
  obtain ⟨B, F0, L, F, A, R, h⟩ := h
  exact h F H (Grow.refl R.sf) [] .nil
theorem ca_cons {e : Expr} {es : List Expr} {m : Sl → R D} {r : Sl → R (List D)} (hs : nst e = true) (he : CE G Γ e m) (hr : CA G Γ es r) : CA G Γ (e :: es) (mCons m r) := by
  refine fun X ok W tk => PA.imp (pa_cons (he X ok W tk) (hr X ok W tk) (star_cons hs)) fun σ H Q h => ?_
  obtain ⟨B, F0, L, F, A, R, h⟩ := h
  refine ⟨B, F0, L, F, A, R, (pG.bind h).imp R fun d F1 H1 s1 R1 g1 h1 v rv => ?_⟩
  refine ⟨B, F0, L, F1, A, R1, (pG.bind h1).imp R1 fun ds F2 H2 s2 R2 g2 h2 vs rvs => ?_⟩
  exact h2 F2 H2 (Grow.refl R2.sf) _ (.cons (rv.mono s2) rvs)
theorem RpA.length {K : PySem.W.Frag} {mg : Str → Option Value} {F : Hp} : ∀ {vs : List V} {ds : List D}, RpA K mg F vs ds → vs.length = ds.length
  | _, _, .nil => rfl
  | _, _, .cons _ t => congrArg (· + 1) (RpA.length t)
def mTup (m : Sl → R (List D)) : Sl → R D := fun L => (m L).bind fun ds => if ds.length ≤ sizeLine then .ok (.tup ds) else .stuck
theorem ce_tup {es : List Expr} {m : Sl → R (List D)} {k pos} (h : CA G Γ es m) : CE G Γ (.Tuple es k pos) (mTup m) := by
  refine fun X ok W tk => PE.imp (pe_tup (h X ok W tk)) fun σ H Q h => ?_
  obtain ⟨B, F0, L, F, A, R, h⟩ := h
  refine ⟨B, F0, L, F, A, R, (pG.bind h).imp R fun ds F1 H1 s1 R1 g1 h1 vs rv => ?_⟩
  split at h1
  · rename_i hl
    refine ⟨by rw [rv.length]; exact hl, fun p hp => ?_⟩
    obtain ⟨s2, R2⟩ := R1.frz (.tup vs) hp
    exact h1 _ _ (Grow.new R1.sf (.tup vs) hp) _ (.tup upd_same (rv.mono s2))
  · exact h1.elim
def mFr (m : Sl → R O) : Sl → R D := fun L => (m L).bind fun o => .ok o.fr
theorem fr_end {W : WX} {F : Hp} {r : R O} (sf : Same F H) (h : pG G W σ F H (r.bind fun o => .ok o.fr) fun d F' H' => ∀ v, Rp G.K G.mg F' v d → Q v H') : pG G W σ F H r fun o F' H' => ∀ v C, Ow G.tg G.K G.mg F' H' v o C → C.Nodup → (∀ a ∈ C, F' a = none ∧ H a = none) → Q v H' := by
  cases r with
  | ok o =>
    intro F1 H1 g1 v C ow nC fC
    have s2 : Same F1 (join F1 H1 C) := join_same fun a m => (fC a m).1
    refine h (join F1 H1 C) H1 ⟨g1.sH, g1.sF.trans s2, join_le g1.le, fun a z n => ?_⟩ v (Ow.fr (fun a m => (fC a m).1) (fun a m => m) ow)
    by_cases hm : a ∈ C
    · exact absurd (fC a hm).2 n.1
    · rw [join_not hm]; exact g1.hf a z n
  | exc c => exact h
  | stuck => exact h
theorem ce_of_co {e : Expr} {m : Sl → R O} (h : CO G Γ e m) : CE G Γ e (mFr m) := by
  refine fun X ok W tk => PE.imp (h X ok W tk) fun σ H Q h => ?_
  obtain ⟨B, F0, L, F, A, R, h⟩ := h
  exact ⟨B, F0, L, F, A, R, fr_end R.sf h⟩
theorem co_of_ce {e : Expr} {m : Sl → R D} (h : CE G Γ e m) : CO G Γ e (fun L => (m L).bind fun d => .ok (.v d)) := by
  refine fun X ok W tk => PE.imp (h X ok W tk) fun σ H Q h => ?_
  obtain ⟨B, F0, L, F, A, R, h⟩ := h
  exact ⟨B, F0, L, F, A, R, (pG.bind h).imp R fun d F1 H1 s1 R1 g1 h1 v rv => h1 F1 H1 (Grow.refl R1.sf) v [] (.v rv) List.nodup_nil fun _ m => nomatch m⟩
theorem RpA.ow {tg : Tg} {K : PySem.W.Frag} {mg : Str → Option Value} {F H : Hp} : ∀ {vs : List V} {ds : List D}, RpA K mg F vs ds → OwA tg K mg F H vs (ds.map .v) []
  | _, _, .nil => .nil
  | _, _, .cons r t => .cons (A := []) (B := []) (.v r) (RpA.ow t)
theorem new_list {F H0 : Hp} {vs : List V} {ds : List D} (sf : Same F H) (s0 : Kp G H0 H) (rv : RpA G.K G.mg F vs ds)
    (h : ∀ F' H', Grow G F H F' H' → ∀ v C, Ow G.tg G.K G.mg F' H' v (.ml (ds.map .v)) C → C.Nodup → (∀ a ∈ C, F' a = none ∧ H0 a = none) → Q v H') : ∀ p, H p = none → Q (.ref p) (upd H p (.lst vs)) := fun p hp => by
  refine h F (upd H p (.lst vs)) ⟨Kp.new hp, .refl _, fun a u e => ?_, fun _ e _ => e⟩ (.ref p) [p] (.ml upd_same rv.ow) (by simp) (fun a m => by rw [List.mem_singleton.mp m]; exact ⟨sf.free hp, s0.free hp⟩)
  · rw [upd_ne (ne_of_none (sf _ _ e) hp)]; exact sf _ _ e
def mLst (m : Sl → R (List D)) : Sl → R O := fun L => (m L).bind fun ds => if ds.length ≤ sizeLine then .ok (.ml (ds.map .v)) else .stuck
theorem co_lst {es : List Expr} {m : Sl → R (List D)} {pos} (h : CA G Γ es m) : CO G Γ (.List es pos) (mLst m) := by
  refine fun X ok W tk => PE.imp (pe_lst (h X ok W tk)) fun σ H Q h => ?_
  obtain ⟨B, F0, L, F, A, R, h⟩ := h
  refine ⟨B, F0, L, F, A, R, (pG.bind h).imp R fun ds F1 H1 s1 R1 g1 h1 vs rv => ?_⟩
  split at h1
  · rename_i hl
    exact ⟨by rw [rv.length]; exact hl, new_list R1.sf g1.sH rv h1⟩
  · exact h1.elim
end
end Eng
end
section
set_option Elab.async false
set_option linter.all false
set_option maxRecDepth 100000
set_option maxHeartbeats 4000000
namespace Eng
open PySem PySem.Spec PyProof.Rows L2
mutual
def D.py : D → Option PyData
  | .non => some .none
  | .bl b => some (.bool b)
  | .int i => some (.int i)
  | .str x => some (.str x)
  | .lst xs => (D.pyA xs).map .list
  | .tup xs => (D.pyA xs).map .tuple
  | .ins _ _ => none
  | .dk _ => none
  | .dt _ => none
  | .exn _ _ => none
  | .opq => none
  | .xt _ => none
def D.pyA : List D → Option (List PyData)
  | [] => some []
  | d :: ds => d.py.bind fun p => (D.pyA ds).map fun ps => p :: ps
end
mutual
theorem D.py_plain : ∀ {d : D} {p : PyData}, d.py = some p → p.plain = true
  | .non, _, h => by unfold D.py at h; cases h; rfl
  | .bl _, _, h => by unfold D.py at h; cases h; rfl
  | .int _, _, h => by unfold D.py at h; cases h; rfl
  | .str _, _, h => by unfold D.py at h; cases h; rfl
  | .lst xs, p, h => by
    unfold D.py at h
    cases e : D.pyA xs with
    | none => rw [e] at h; cases h
    | some ps => rw [e] at h; cases h; exact D.pyA_plain e
  | .tup xs, p, h => by
    unfold D.py at h
    cases e : D.pyA xs with
    | none => rw [e] at h; cases h
    | some ps => rw [e] at h; cases h; exact D.pyA_plain e
  | .ins _ _, _, h => by unfold D.py at h; cases h
  | .dk _, _, h => by unfold D.py at h; cases h
  | .dt _, _, h => by unfold D.py at h; cases h
  | .exn _ _, _, h => by unfold D.py at h; cases h
  | .opq, _, h => by unfold D.py at h; cases h
  | .xt _, _, h => by unfold D.py at h; cases h
theorem D.pyA_plain : ∀ {d : List D} {p : List PyData}, D.pyA d = some p → PyData.plainAll p = true
  | [], _, h => by unfold D.pyA at h; cases h; rfl
  | d :: ds, p, h => by
    unfold D.pyA at h
    cases e : d.py with
    | none => rw [e] at h; cases h
    | some q =>
      cases e2 : D.pyA ds with
      | none => rw [e, e2] at h; cases h
      | some ps => rw [e, e2] at h; cases h; simp only [PyData.plainAll, D.py_plain e, D.pyA_plain e2, Bool.and_self]
end
section
variable {tg : Tg} {K : PySem.W.Frag} {mg : Str → Option Value} {F H : Hp}
mutual
theorem Rp.dp (s : Same F H) : ∀ {v : V} {d : D} {p : PyData}, Rp K mg F v d → d.py = some p → Dp K H v p
  | _, _, _, .non, h => by unfold D.py at h; cases h; exact .non
  | _, _, _, .bl b, h => by unfold D.py at h; cases h; exact .bl b
  | _, _, _, .int b, h => by unfold D.py at h; cases h; exact .int b
  | _, _, _, .str b, h => by unfold D.py at h; cases h; exact .str b
  | _, _, p, .lst (ds := ds) hs r, h => by
    unfold D.py at h
    cases e : D.pyA ds with
    | none => rw [e] at h; cases h
    | some ps => rw [e] at h; cases h; exact .lst (s.seq hs) (RpA.dp s r e)
  | _, _, p, .tup (ds := ds) hs r, h => by
    unfold D.py at h
    cases e : D.pyA ds with
    | none => rw [e] at h; cases h
    | some ps => rw [e] at h; cases h; exact .tup (s.tq hs) (RpA.dp s r e)
  | _, _, _, .ins _ _ _, h => by unfold D.py at h; cases h
  | _, _, _, .dk _ _, h => by unfold D.py at h; cases h
  | _, _, _, .dt _ _, h => by unfold D.py at h; cases h
  | _, _, _, .exn _ _ _ _, h => by unfold D.py at h; cases h
  | _, _, _, .opq _, h => by unfold D.py at h; cases h
  | _, _, _, .xt _ _ _, h => by unfold D.py at h; cases h
theorem RpA.dp (s : Same F H) : ∀ {v : List V} {d : List D} {p : List PyData}, RpA K mg F v d → D.pyA d = some p → DpAll K H v p
  | _, _, _, .nil, h => by unfold D.pyA at h; cases h; exact .nil
  | _, _, _, .cons (d := d) (ds := ds) r t, h => by
    unfold D.pyA at h
    cases e : d.py with
    | none => rw [e] at h; cases h
    | some q =>
      cases e2 : D.pyA ds with
      | none => rw [e, e2] at h; cases h
      | some ps => rw [e, e2] at h; cases h; exact .cons (Rp.dp s r e) (RpA.dp s t e2)
end
end
section
variable {G : Gd} {Γ : Gm} {X : Cx} {pins : List (Addr × Obj)} {σ : L2.St} {H F : Hp} {s : Shared} {v : V} {u : Value} {d : D} {p : PyData} {Q : VK}
theorem Gm.Ok.units (ok : Γ.Ok G X) : X.A.units + 150 < cLine := by have := ok.un; omega
theorem Rp.rd (ok : Γ.Ok G X) (I : Inv X pins σ H s) (sf : Same F H) (r : Rp G.K G.mg F v d) (e : d.py = some p) (rv : RelV v u) : ∃ as, Reads s.heap u p as := by
  have := Rp.dp sf r e
  rw [← ok.K] at this
  exact Dp.reads I p v u this rv
theorem ep_sc {b : Value} {x : V} (I : Inv X pins σ H s) (sf : Same F H) (rv : RelV x b) (rp : ∀ F, Rp G.K G.mg F x d) (h : ∀ v F' H', Grow G F H F' H' → Rp G.K G.mg F' v d → Q v H') : EP X pins σ Q b s :=
  ⟨x, H, I, rv, h x F H (.refl sf) (rp F)⟩
end
def fAdd : D → D → Option D
  | .int i, .int j => some (.int (i + j))
  | .str x, .str y => if x.length + y.length ≤ sizeLine then some (.str (x ++ y)) else none
  | .tup xs, .tup ys => if xs.length + ys.length ≤ sizeLine then some (.tup (xs ++ ys)) else none
  | .lst xs, .lst ys => if xs.length + ys.length ≤ sizeLine then some (.lst (xs ++ ys)) else none
  | _, _ => none
section
variable {G : Gd} {Γ : Gm}
theorem RpA.append {K : PySem.W.Frag} {mg : Str → Option Value} {F : Hp} : ∀ {vs ws : List V} {ds es : List D}, RpA K mg F vs ds → RpA K mg F ws es → RpA K mg F (vs ++ ws) (ds ++ es)
  | _, _, _, _, .nil, s => s
  | _, _, _, _, .cons r t, s => .cons r (RpA.append t s)
theorem cat_lists {X : Cx} {pins : List (Addr × Obj)} {σ : L2.St} {H : Hp} {s : Shared} {Q : VK} {l b : Addr} {xs zs : List V} (I : Inv X pins σ H s) (h1 : SqL X.K H l xs) (h2 : SqL X.K H b zs) (hz : xs.length + zs.length ≤ sizeLine)
    (q : ∀ p, H p = none → Q (.ref p) (upd H p (.lst (xs ++ zs)))) : wpAny (model X.prog X.w) X.A (binaryOp .Add (.ref l) (.ref b)) (EP X pins σ Q) X.xe s := by
  obtain ⟨vs, r, p1, _⟩ := I.list h1
  obtain ⟨ws, r2, p2, _⟩ := I.list h2
  have el := r.length
  have el2 := r2.length
  obtain ⟨⟨cls, dd, data, sl⟩, ho, hc, n, hd⟩ := p1.isList
  obtain ⟨⟨cls2, dd2, data2, sl2⟩, ho2, hc2, n2, hd2⟩ := p2.isList
  simp only at hc hd hc2 hd2
  subst hc hd hc2 hd2
  have e : vs.toArray ++ ws.toArray = (vs ++ ws).toArray := by simp
  refine concat_meets ⟨_, ho, rfl⟩ ⟨_, ho2, rfl⟩ noFill_list_add seq_list_add PySem.F.slot_list_add PySem.F.entry_list_add (PySem.F.args_list_add_2 _ _) (list_addW l b vs.toArray ws.toArray n n2 dd dd2 sl sl2 (by simp only [List.size_toArray]; omega)) ⟨ho, ho2, ?_⟩
  rw [e]
  exact ⟨.ref _, _, I.lnew (t' := s.toks) (r.append r2) (by rw [List.length_append]; omega), rfl, q _ I.fresh⟩
theorem o_add : Op2 G fAdd (binaryOp .Add) := by
  intro X Γ ok pins s σ H x y v u Q I rx ry h
  obtain ⟨F, dx, dy, d, sf, hx, hy, e, h⟩ := h
  unfold fAdd at e
  split at e
  · cases e; cases hx; cases hy
    exact op_add pins s σ H _ _ v u Q I rx ry ⟨_, _, rfl, rfl, h _ F H (.refl sf) (.int _)⟩
  · split at e
    · cases e; cases hx; cases hy
      exact op_add_str pins s σ H _ _ v u Q I rx ry ⟨_, _, rfl, rfl, by assumption, h _ F H (.refl sf) (.str _)⟩
    · cases e
  · split at e
    · rename_i hz
      cases e
      cases hx with
      | @tup _ us1 _ h1 r1 =>
        cases hy with
        | @tup _ us2 _ h2 r2 =>
          refine op_catA pins s σ H _ _ v u Q I rx ry ⟨_, _, _, _, rfl, rfl, by rw [ok.K]; exact sf.tq h1, by rw [ok.K]; exact sf.tq h2, by rw [r1.length, r2.length]; exact hz, fun e0 => ?_, fun _ e0 => ?_, fun _ _ p hp => ?_⟩
          · refine h _ F H (.refl sf) ?_
            subst e0; cases r1; exact .tup h2 r2
          · refine h _ F H (.refl sf) ?_
            subst e0; cases r2; rw [List.append_nil]; exact .tup h1 r1
          · have g := Grow.new (G := G) sf (.tup (us1 ++ us2)) hp
            exact h _ _ _ g (.tup upd_same (RpA.mono g.sF (r1.append r2)))
    · cases e
  · split at e
    · rename_i hz
      cases e
      cases hx with
      | @lst _ us1 _ h1 r1 =>
        cases hy with
        | @lst _ us2 _ h2 r2 =>
          cases rx; cases ry
          refine cat_lists I (by rw [ok.K]; exact sf.seq h1) (by rw [ok.K]; exact sf.seq h2) (by rw [r1.length, r2.length]; exact hz) fun p hp => ?_
          have g := Grow.new (G := G) sf (.lst (us1 ++ us2)) hp
          exact h _ _ _ g (.lst (.inl (.inl upd_same)) (RpA.mono g.sF (r1.append r2)))
    · cases e
  · cases e
def fSub : D → D → Option D
  | .int i, .int j => some (.int (i - j))
  | _, _ => none
theorem o_sub : Op2 G fSub (binaryOp .Sub) := by
  intro X Γ ok pins s σ H x y v u Q I rx ry h
  obtain ⟨F, dx, dy, d, sf, hx, hy, e, h⟩ := h
  unfold fSub at e
  split at e
  · cases e; cases hx; cases hy
    exact op_sub pins s σ H _ _ v u Q I rx ry ⟨_, _, rfl, rfl, h _ F H (.refl sf) (.int _)⟩
  · cases e
def mulOk (i j : Int) : Prop := (-18446744073709551616 < i ∧ i < 18446744073709551616) ∨ (-18446744073709551616 < j ∧ j < 18446744073709551616)
instance (i j : Int) : Decidable (mulOk i j) := by unfold mulOk; infer_instance
def fMul : D → D → Option D
  | .int i, .int j => if mulOk i j then some (.int (i * j)) else none
  | _, _ => none
theorem o_mul : Op2 G fMul (binaryOp .Mult) := by
  intro X Γ ok pins s σ H x y v u Q I rx ry h
  obtain ⟨F, dx, dy, d, sf, hx, hy, e, h⟩ := h
  unfold fMul at e
  split at e
  · split at e
    · rename_i hm
      cases e; cases hx; cases hy
      refine op_mul pins s σ H _ _ v u Q I rx ry ⟨_, _, rfl, rfl, ?_, h _ F H (.refl sf) (.int _)⟩
      unfold mulOk at hm; unfold CMul
      omega
    · cases e
  · cases e
def fDiv : D → D → Option D
  | .int i, .int j => if 0 < j ∧ j < 18446744073709551616 then some (.int (i / j)) else none
  | _, _ => none
theorem o_div : Op2 G fDiv (binaryOp .FloorDiv) := by
  intro X Γ ok pins s σ H x y v u Q I rx ry h
  obtain ⟨F, dx, dy, d, sf, hx, hy, e, h⟩ := h
  unfold fDiv at e
  split at e
  · split at e
    · rename_i i j hm
      cases e; cases hx; cases hy
      exact op_fdivW pins s σ H _ _ v u Q I rx ry ⟨_, _, rfl, rfl, wide_div (b := 64) hm.1 (by have := hm.1; have := hm.2; omega) (by decide) (by decide), h _ F H (.refl sf) (.int _)⟩
    · cases e
  · cases e
def fMod : D → D → Option D
  | .int i, .int j => if 0 < j then some (.int (i % j)) else none
  | _, _ => none
theorem o_mod : Op2 G fMod (binaryOp .Mod) := by
  intro X Γ ok pins s σ H x y v u Q I rx ry h
  obtain ⟨F, dx, dy, d, sf, hx, hy, e, h⟩ := h
  unfold fMod at e
  split at e
  · split at e
    · cases e; cases hx; cases hy
      exact op_mod pins s σ H _ _ v u Q I rx ry ⟨_, _, rfl, rfl, by assumption, h _ F H (.refl sf) (.int _)⟩
    · cases e
  · cases e
def fPow : D → D → Option D
  | .int i, .int j => if (0 ≤ j ∧ j ≤ 1000) ∧ (-1000000 < i ∧ i < 1000000) then some (.int (i ^ j.toNat)) else none
  | _, _ => none
theorem o_pow : Op2 G fPow (binaryOp .Pow) := by
  intro X Γ ok pins s σ H x y v u Q I rx ry h
  obtain ⟨F, dx, dy, d, sf, hx, hy, e, h⟩ := h
  unfold fPow at e
  split at e
  · split at e
    · rename_i hm
      cases e; cases hx; cases hy
      exact op_pow pins s σ H _ _ v u Q I rx ry ⟨_, _, rfl, rfl, ⟨hm.1.1, by omega, by omega⟩, h _ F H (.refl sf) (.int _)⟩
    · cases e
  · cases e
def eqD (x y : D) : Option Bool := match x, y with
  | .int i, .int j => some (decide (i = j))
  | .str i, .str j => some (decide (i = j))
  | .bl i, .bl j => some (decide (i = j))
  | x, y => match x.py, y.py with
    | some p, some q => if min p.depth q.depth ≤ 64 then some (PyData.eqv p q) else none
    | _, _ => none
def fEq (x y : D) : Option D := (eqD x y).map .bl
def fNe (x y : D) : Option D := (eqD x y).map fun b => .bl (!b)
theorem eqD_py {x y : D} {b : Bool} (e : eqD x y = some b) : ∃ p q, x.py = some p ∧ y.py = some q ∧ min p.depth q.depth ≤ 64 ∧ b = PyData.eqv p q := by
  unfold eqD at e
  split at e
  · rename_i i j
    cases e; exact ⟨.int i, .int j, rfl, rfl, by simp [PyData.depth], by unfold PyData.eqv; first | rfl | simp⟩
  · rename_i i j
    cases e; exact ⟨.str i, .str j, rfl, rfl, by simp [PyData.depth], by unfold PyData.eqv; first | rfl | simp⟩
  · rename_i i j
    cases e; exact ⟨.bool i, .bool j, rfl, rfl, by simp [PyData.depth], by unfold PyData.eqv; first | rfl | simp⟩
  · split at e
    · rename_i p q e1 e2
      split at e
      · cases e; exact ⟨p, q, e1, e2, by assumption, rfl⟩
      · cases e
    · cases e
theorem o_eq : Op2 G fEq (compareOp .Eq) := by
  intro X Γ ok pins s σ H x y v u Q I rx ry h
  obtain ⟨F, dx, dy, d, sf, hx, hy, e, h⟩ := h
  unfold fEq at e
  cases e1 : eqD dx dy with
  | none => rw [e1] at e; cases e
  | some b =>
    rw [e1] at e; cases e
    obtain ⟨p, q, e2, e3, hd, eb⟩ := eqD_py e1
    obtain ⟨as, r1⟩ := Rp.rd ok I sf hx e2 rx
    obtain ⟨bs, r2⟩ := Rp.rd ok I sf hy e3 ry
    refine SeqAt.eq_plain r1 r2 (D.py_plain e2) (D.py_plain e3) (by have := ok.units; omega) ?_
    exact ep_sc (x := .bl b) I sf (by rw [eb]; rfl) (fun _ => .bl _) h
theorem o_ne : Op2 G fNe (compareOp .NotEq) := by
  intro X Γ ok pins s σ H x y v u Q I rx ry h
  obtain ⟨F, dx, dy, d, sf, hx, hy, e, h⟩ := h
  unfold fNe at e
  cases e1 : eqD dx dy with
  | none => rw [e1] at e; cases e
  | some b =>
    rw [e1] at e; cases e
    obtain ⟨p, q, e2, e3, hd, eb⟩ := eqD_py e1
    obtain ⟨as, r1⟩ := Rp.rd ok I sf hx e2 rx
    obtain ⟨bs, r2⟩ := Rp.rd ok I sf hy e3 ry
    refine SeqAt.ne_plain r1 r2 (D.py_plain e2) (D.py_plain e3) (by have := ok.units; omega) ?_
    exact ep_sc (x := .bl (!b)) I sf (by rw [eb]; rfl) (fun _ => .bl _) h
def pyN : PyData → Bool | .none => true | _ => false
theorem pyN_ne {p : PyData} (h : pyN p = false) : p ≠ .none := by rintro rfl; cases h
def ltD (x y : D) : Option Bool := match x, y with
  | .int i, .int j => some (decide (i < j))
  | x, y => match x.py, y.py with
    | some p, some q => if W.alike p q = true ∧ p.depth ≤ 64 ∧ q.depth ≤ 64 ∧ pyN p = false ∧ pyN q = false then some (W.dataLt p q) else none
    | _, _ => none
def fLt (x y : D) : Option D := (ltD x y).map .bl
def fGt (x y : D) : Option D := (ltD y x).map .bl
def fLe (x y : D) : Option D := (ltD y x).map fun b => .bl (!b)
def fGe (x y : D) : Option D := (ltD x y).map fun b => .bl (!b)
end
end Eng
end
section
set_option Elab.async false
set_option linter.all false
set_option maxRecDepth 100000
set_option maxHeartbeats 4000000
namespace Eng
open PySem PySem.Spec PyProof.Rows L2
section
variable {G : Gd} {Γ : Gm}
theorem ltD_py {x y : D} {b : Bool} (e : ltD x y = some b) : ∃ p q, x.py = some p ∧ y.py = some q ∧ W.alike p q = true ∧ p.depth ≤ 64 ∧ q.depth ≤ 64 ∧ p ≠ .none ∧ q ≠ .none ∧ ((∃ i j, x = .int i ∧ y = .int j ∧ b = decide (i < j)) ∨ b = W.dataLt p q) := by
  unfold ltD at e
  split at e
  · rename_i i j
    cases e
    exact ⟨.int i, .int j, rfl, rfl, rfl, by simp [PyData.depth], by simp [PyData.depth], (fun h => nomatch h), (fun h => nomatch h), .inl ⟨i, j, rfl, rfl, rfl⟩⟩
  · split at e
    · rename_i p q e1 e2
      split at e
      · rename_i h
        cases e
        exact ⟨p, q, e1, e2, h.1, h.2.1, h.2.2.1, pyN_ne h.2.2.2.1, pyN_ne h.2.2.2.2, .inr rfl⟩
      · cases e
    · cases e
theorem ab_of {x y : D} {b : Bool} {f : Bool → D} {d : D} (h : Option.map f (ltD x y) = some d) (hf : True) : ∃ b, ltD x y = some b ∧ d = f b := by
  cases e : ltD x y with
  | none => rw [e] at h; cases h
  | some b => rw [e] at h; cases h; exact ⟨b, rfl, rfl⟩
theorem o_lt : Op2 G fLt (compareOp .Lt) := by
  intro X Γ ok pins s σ H x y v u Q I rx ry h
  obtain ⟨F, dx, dy, d, sf, hx, hy, e, h⟩ := h
  obtain ⟨b, e1, rfl⟩ := ab_of (b := true) e trivial
  obtain ⟨p, q, e2, e3, hl, d1, d2, n1, n2, c⟩ := ltD_py e1
  rcases c with ⟨i, j, rfl, rfl, rfl⟩ | rfl
  · cases hx; cases hy
    exact op_lt pins s σ H _ _ v u Q I rx ry ⟨_, _, rfl, rfl, h _ F H (.refl sf) (.bl _)⟩
  · obtain ⟨as, r1⟩ := Rp.rd ok I sf hx e2 rx
    obtain ⟨bs, r2⟩ := Rp.rd ok I sf hy e3 ry
    exact W.lt_data r1 r2 hl n1 (by have := ok.units; omega) (ep_sc (x := .bl _) I sf rfl (fun _ => .bl _) h)
theorem o_gt : Op2 G fGt (compareOp .Gt) := by
  intro X Γ ok pins s σ H x y v u Q I rx ry h
  obtain ⟨F, dx, dy, d, sf, hx, hy, e, h⟩ := h
  obtain ⟨b, e1, rfl⟩ := ab_of (b := true) e trivial
  obtain ⟨p, q, e2, e3, hl, d1, d2, n1, n2, c⟩ := ltD_py e1
  rcases c with ⟨i, j, rfl, rfl, rfl⟩ | rfl
  · cases hx; cases hy
    exact op_gt pins s σ H _ _ v u Q I rx ry ⟨_, _, rfl, rfl, h _ F H (.refl sf) (.bl _)⟩
  · obtain ⟨as, r1⟩ := Rp.rd ok I sf hx e3 rx
    obtain ⟨bs, r2⟩ := Rp.rd ok I sf hy e2 ry
    exact W.gt_data r1 r2 (by rw [W.alike_comm]; exact hl) n2 (by have := ok.units; omega) (ep_sc (x := .bl _) I sf rfl (fun _ => .bl _) h)
theorem o_le : Op2 G fLe (compareOp .LtE) := by
  intro X Γ ok pins s σ H x y v u Q I rx ry h
  obtain ⟨F, dx, dy, d, sf, hx, hy, e, h⟩ := h
  obtain ⟨b, e1, rfl⟩ := ab_of (b := true) e trivial
  obtain ⟨p, q, e2, e3, hl, d1, d2, n1, n2, c⟩ := ltD_py e1
  rcases c with ⟨i, j, rfl, rfl, rfl⟩ | rfl
  · cases hx; cases hy
    refine op_le pins s σ H _ _ v u Q I rx ry ⟨_, _, rfl, rfl, h _ F H (.refl sf) ?_⟩
    rw [W.cmp_not_lt]; exact .bl _
  · obtain ⟨as, r1⟩ := Rp.rd ok I sf hx e3 rx
    obtain ⟨bs, r2⟩ := Rp.rd ok I sf hy e2 ry
    exact W.le_data r1 r2 (by rw [W.alike_comm]; exact hl) n2 (by have := ok.units; omega) (ep_sc (x := .bl _) I sf rfl (fun _ => .bl _) h)
theorem o_ge : Op2 G fGe (compareOp .GtE) := by
  intro X Γ ok pins s σ H x y v u Q I rx ry h
  obtain ⟨F, dx, dy, d, sf, hx, hy, e, h⟩ := h
  obtain ⟨b, e1, rfl⟩ := ab_of (b := true) e trivial
  obtain ⟨p, q, e2, e3, hl, d1, d2, n1, n2, c⟩ := ltD_py e1
  rcases c with ⟨i, j, rfl, rfl, rfl⟩ | rfl
  · cases hx; cases hy
    refine op_ge pins s σ H _ _ v u Q I rx ry ⟨_, _, rfl, rfl, h _ F H (.refl sf) ?_⟩
    rw [W.cmp_not_lt]; exact .bl _
  · obtain ⟨as, r1⟩ := Rp.rd ok I sf hx e2 rx
    obtain ⟨bs, r2⟩ := Rp.rd ok I sf hy e3 ry
    exact W.ge_data r1 r2 hl n1 (by have := ok.units; omega) (ep_sc (x := .bl _) I sf rfl (fun _ => .bl _) h)
def isN : D → Bool | .non => true | _ => false
def isD (x y : D) : Option Bool := if isN y = true then some (isN x) else match x, y with | .bl a, .bl b => some (decide (a = b)) | _, _ => none
def fIs (x y : D) : Option D := (isD x y).map .bl
def fIsN (x y : D) : Option D := (isD x y).map fun b => .bl (!b)
theorem Rp.isN {K : PySem.W.Frag} {mg : Str → Option Value} {F : Hp} {v : V} {d : D} (r : Rp K mg F v d) : decide (v = .non) = isN d := by
  cases r <;> rfl
theorem map_some {α β : Type} {f : α → β} {o : Option α} {d : β} (h : o.map f = some d) : ∃ b, o = some b ∧ d = f b := by
  cases o with
  | none => cases h
  | some b => cases h; exact ⟨b, rfl, rfl⟩
def keyD : D → Option Key | .int i => some (.inl i) | .str s => some (.inr s) | _ => none
def keysD : List D → Option (List Key)
  | [] => some []
  | d :: ds => (keyD d).bind fun k => (keysD ds).map (k :: ·)
theorem bind_some {α β : Type} {f : α → Option β} {o : Option α} {d : β} (h : o.bind f = some d) : ∃ b, o = some b ∧ f b = some d := by
  cases o with
  | none => cases h
  | some b => exact ⟨b, rfl, h⟩
theorem Rp.keyD {K : PySem.W.Frag} {mg : Str → Option Value} {F : Hp} {v : V} {d : D} {k : Key} (r : Rp K mg F v d) (e : Eng.keyD d = some k) : v = kV k := by
  cases r <;> first | (cases e; done) | (cases e; rfl)
theorem RpA.keysD {K : PySem.W.Frag} {mg : Str → Option Value} {F : Hp} : ∀ {vs : List V} {ds : List D} {ks : List Key}, RpA K mg F vs ds → Eng.keysD ds = some ks → vs = ks.map kV
  | _, _, _, .nil, e => by cases e; rfl
  | _, _, _, .cons r t, e => by
    unfold Eng.keysD at e
    obtain ⟨k, e1, e2⟩ := bind_some e
    obtain ⟨ks, e3, rfl⟩ := map_some e2
    rw [r.keyD e1, t.keysD e3]; rfl
def valD {κ : Type} [DecidableEq κ] (kvs : List (κ × D)) (k : κ) : Option D := (kvs.find? fun kv => decide (kv.1 = k)).map (·.2)
theorem RpK.val {K : PySem.W.Frag} {mg : Str → Option Value} {F : Hp} {k : Key} : ∀ {vs : List (Key × V)} {ds : List (Key × D)}, RpK K mg F vs ds → (valV vs k = none ∧ valD ds k = none) ∨ ∃ v d, valV vs k = some v ∧ valD ds k = some d ∧ Rp K mg F v d
  | _, _, .nil => .inl ⟨rfl, rfl⟩
  | _, _, .cons (x := x) (v := v) (vs := vs) (d := d) (ds := ds) r t => by
    by_cases e : x = k
    · exact .inr ⟨v, d, by simp [valV, e], by simp [valD, e], r⟩
    · rcases RpK.val (k := k) t with h | ⟨v', d', h1, h2, h3⟩
      · refine .inl ?_
        simp only [valV, valD, List.find?_cons, decide_eq_false e] at h ⊢
        exact h
      · refine .inr ⟨v', d', ?_, ?_, h3⟩
        · simp only [valV, List.find?_cons, decide_eq_false e] at h1 ⊢; exact h1
        · simp only [valD, List.find?_cons, decide_eq_false e] at h2 ⊢; exact h2
theorem RpT.val {K : PySem.W.Frag} {mg : Str → Option Value} {F : Hp} {k : List Key} : ∀ {vs : List (List Key × V)} {ds : List (List Key × D)}, RpT K mg F vs ds → (valV vs k = none ∧ valD ds k = none) ∨ ∃ v d, valV vs k = some v ∧ valD ds k = some d ∧ Rp K mg F v d
  | _, _, .nil => .inl ⟨rfl, rfl⟩
  | _, _, .cons (x := x) (v := v) (vs := vs) (d := d) (ds := ds) r t => by
    by_cases e : x = k
    · exact .inr ⟨v, d, by simp [valV, e], by simp [valD, e], r⟩
    · rcases RpT.val (k := k) t with h | ⟨v', d', h1, h2, h3⟩
      · refine .inl ?_
        simp only [valV, valD, List.find?_cons, decide_eq_false e] at h ⊢
        exact h
      · refine .inr ⟨v', d', ?_, ?_, h3⟩
        · simp only [valV, List.find?_cons, decide_eq_false e] at h1 ⊢; exact h1
        · simp only [valD, List.find?_cons, decide_eq_false e] at h2 ⊢; exact h2
theorem RpK.length {K : PySem.W.Frag} {mg : Str → Option Value} {F : Hp} : ∀ {vs : List (Key × V)} {ds : List (Key × D)}, RpK K mg F vs ds → vs.length = ds.length
  | _, _, .nil => rfl
  | _, _, .cons _ t => congrArg (· + 1) (RpK.length t)
theorem RpT.length {K : PySem.W.Frag} {mg : Str → Option Value} {F : Hp} : ∀ {vs : List (List Key × V)} {ds : List (List Key × D)}, RpT K mg F vs ds → vs.length = ds.length
  | _, _, .nil => rfl
  | _, _, .cons _ t => congrArg (· + 1) (RpT.length t)
def getD? (d k : D) : Option (Option D) := match d with
  | .dk ds => (keyD k).map fun j => valD ds j
  | .dt ds => match k with | .tup ks => (keysD ks).map fun j => valD ds j | _ => none
  | _ => none
theorem getD_of {K : PySem.W.Frag} {mg : Str → Option Value} {F H : Hp} {v y : V} {d k : D} {o : Option D} (sf : Same F H) (r : Rp K mg F v d) (ry : Rp K mg F y k) (e : getD? d k = some o) :
    ∃ a r, v = .ref a ∧ DGet H a y r ∧ ((r = none ∧ o = none) ∨ ∃ z w, r = some z ∧ o = some w ∧ Rp K mg F z w) := by
  unfold getD? at e
  split at e
  · obtain ⟨j, e1, rfl⟩ := map_some e
    cases r with
    | dk hF rr =>
      rcases RpK.val (k := j) rr with ⟨h1, h2⟩ | ⟨z, w, h1, h2, h3⟩
      · exact ⟨_, none, rfl, .inl ⟨_, j, Same.rd sf hF, ry.keyD e1, h1.symm⟩, .inl ⟨rfl, h2⟩⟩
      · exact ⟨_, some z, rfl, .inl ⟨_, j, Same.rd sf hF, ry.keyD e1, h1.symm⟩, .inr ⟨z, w, rfl, h2, h3⟩⟩
  · split at e
    · obtain ⟨j, e1, rfl⟩ := map_some e
      cases r with
      | dt hF rr =>
        cases ry with
        | tup hT rt =>
          obtain rfl := rt.keysD e1
          rcases RpT.val (k := j) rr with ⟨h1, h2⟩ | ⟨z, w, h1, h2, h3⟩
          · exact ⟨_, none, rfl, .inr ⟨_, j, _, Same.rd sf hF, rfl, sf _ _ hT, h1.symm⟩, .inl ⟨rfl, h2⟩⟩
          · exact ⟨_, some z, rfl, .inr ⟨_, j, _, Same.rd sf hF, rfl, sf _ _ hT, h1.symm⟩, .inr ⟨z, w, rfl, h2, h3⟩⟩
    · cases e
  · cases e
def inD (x y : D) : Option Bool := match x, y with
  | .str z, .str t => if z.cps.size = 1 then some (decide (z.cps.getD 0 0 ∈ t.cps.toList)) else none
  | x, .lst ys => match x.py, D.pyA ys with
    | some p, some ps => if min (PyData.depthAll ps) p.depth ≤ 64 then some (ps.any fun q => PyData.eqv q p) else none
    | _, _ => none
  | x, .tup ys => match x.py, D.pyA ys with
    | some p, some ps => if min (PyData.depthAll ps) p.depth ≤ 64 then some (ps.any fun q => PyData.eqv q p) else none
    | _, _ => none
  | x, .dk ds => (getD? (.dk ds) x).map (·.isSome)
  | x, .dt ds => (getD? (.dt ds) x).map (·.isSome)
  | _, _ => none
def fIn (x y : D) : Option D := (inD x y).map .bl
def fNin (x y : D) : Option D := (inD x y).map fun b => .bl (!b)
theorem py_lst {ys : List D} {ps : List PyData} (h : D.pyA ys = some ps) : (D.lst ys).py = some (.list ps) := by unfold D.py; rw [h]; rfl
theorem py_tup {ys : List D} {ps : List PyData} (h : D.pyA ys = some ps) : (D.tup ys).py = some (.tuple ps) := by unfold D.py; rw [h]; rfl
theorem one_sign {z : Str} (h : z.cps.size = 1) : z = ⟨#[z.cps.getD 0 0]⟩ := by
  obtain ⟨a⟩ := z
  obtain ⟨l⟩ := a
  cases l with
  | nil => cases h
  | cons c r =>
    cases r with
    | nil => rfl
    | cons b r => simp at h
theorem o_in : Op2 G fIn (compareOp .In) := by
  intro X Γ ok pins s σ H x y v u Q I rx ry h
  obtain ⟨F, dx, dy, d, sf, hx, hy, e, h⟩ := h
  obtain ⟨b, e1, rfl⟩ := map_some e
  have uu := ok.units
  unfold inD at e1
  split at e1
  · split at e1
    · rename_i z t hz
      cases e1; cases hx; cases hy
      refine op_in_sign pins s σ H _ _ v u Q I rx ry ⟨z.cps.getD 0 0, t, ?_, rfl, h _ F H (.refl sf) (.bl _)⟩
      rw [← one_sign hz]
    · cases e1
  · split at e1
    · rename_i p ps e2 e3
      split at e1
      · cases e1
        obtain ⟨as, r1⟩ := Rp.rd ok I sf hx e2 rx
        obtain ⟨bs, r2⟩ := Rp.rd ok I sf hy (py_lst e3) ry
        exact SeqAt.in_list_data r2 r1 (D.pyA_plain e3) (D.py_plain e2) (by omega) (ep_sc (x := .bl _) I sf rfl (fun _ => .bl _) h)
      · cases e1
    · cases e1
  · split at e1
    · rename_i p ps e2 e3
      split at e1
      · cases e1
        obtain ⟨as, r1⟩ := Rp.rd ok I sf hx e2 rx
        obtain ⟨bs, r2⟩ := Rp.rd ok I sf hy (py_tup e3) ry
        exact SeqAt.in_tuple_data r2 r1 (D.pyA_plain e3) (D.py_plain e2) (by omega) (ep_sc (x := .bl _) I sf rfl (fun _ => .bl _) h)
      · cases e1
    · cases e1
  · obtain ⟨o, e2, rfl⟩ := map_some e1
    obtain ⟨a, r, rfl, g, c⟩ := getD_of sf hy hx e2
    cases ry
    refine d_in (by omega) I g rx fun s' I' => ⟨.bl r.isSome, H, I', rfl, ?_⟩
    have : r.isSome = o.isSome := by rcases c with ⟨rfl, rfl⟩ | ⟨z, w, rfl, rfl, _⟩ <;> rfl
    rw [this]
    exact h _ F H (.refl sf) (.bl _)
  · obtain ⟨o, e2, rfl⟩ := map_some e1
    obtain ⟨a, r, rfl, g, c⟩ := getD_of sf hy hx e2
    cases ry
    refine d_in (by omega) I g rx fun s' I' => ⟨.bl r.isSome, H, I', rfl, ?_⟩
    have : r.isSome = o.isSome := by rcases c with ⟨rfl, rfl⟩ | ⟨z, w, rfl, rfl, _⟩ <;> rfl
    rw [this]
    exact h _ F H (.refl sf) (.bl _)
  · cases e1
theorem o_nin : Op2 G fNin (compareOp .NotIn) := by
  intro X Γ ok pins s σ H x y v u Q I rx ry h
  obtain ⟨F, dx, dy, d, sf, hx, hy, e, h⟩ := h
  obtain ⟨b, e1, rfl⟩ := map_some e
  have uu := ok.units
  unfold inD at e1
  split at e1
  · split at e1
    · rename_i z t hz
      cases e1; cases hx; cases hy
      refine op_notIn_sign pins s σ H _ _ v u Q I rx ry ⟨z.cps.getD 0 0, t, ?_, rfl, h _ F H (.refl sf) (.bl _)⟩
      rw [← one_sign hz]
    · cases e1
  · split at e1
    · rename_i p ps e2 e3
      split at e1
      · cases e1
        obtain ⟨as, r1⟩ := Rp.rd ok I sf hx e2 rx
        obtain ⟨bs, r2⟩ := Rp.rd ok I sf hy (py_lst e3) ry
        exact SeqAt.notIn_list_data r2 r1 (D.pyA_plain e3) (D.py_plain e2) (by omega) (ep_sc (x := .bl _) I sf rfl (fun _ => .bl _) h)
      · cases e1
    · cases e1
  · split at e1
    · rename_i p ps e2 e3
      split at e1
      · cases e1
        obtain ⟨as, r1⟩ := Rp.rd ok I sf hx e2 rx
        obtain ⟨bs, r2⟩ := Rp.rd ok I sf hy (py_tup e3) ry
        exact SeqAt.notIn_tuple_data r2 r1 (D.pyA_plain e3) (D.py_plain e2) (by omega) (ep_sc (x := .bl _) I sf rfl (fun _ => .bl _) h)
      · cases e1
    · cases e1
  · obtain ⟨o, e2, rfl⟩ := map_some e1
    obtain ⟨a, r, rfl, g, c⟩ := getD_of sf hy hx e2
    cases ry
    refine d_notIn (by omega) I g rx fun s' I' => ⟨.bl (!r.isSome), H, I', rfl, ?_⟩
    have : r.isSome = o.isSome := by rcases c with ⟨rfl, rfl⟩ | ⟨z, w, rfl, rfl, _⟩ <;> rfl
    rw [this]
    exact h _ F H (.refl sf) (.bl _)
  · obtain ⟨o, e2, rfl⟩ := map_some e1
    obtain ⟨a, r, rfl, g, c⟩ := getD_of sf hy hx e2
    cases ry
    refine d_notIn (by omega) I g rx fun s' I' => ⟨.bl (!r.isSome), H, I', rfl, ?_⟩
    have : r.isSome = o.isSome := by rcases c with ⟨rfl, rfl⟩ | ⟨z, w, rfl, rfl, _⟩ <;> rfl
    rw [this]
    exact h _ F H (.refl sf) (.bl _)
  · cases e1
def fIx : D → D → Option D
  | .lst ds, .int i => atI ds i
  | .tup ds, .int i => atI ds i
  | .str z, .int i => if z.length ≤ sizeLine then (atI z.cps.toList i).map fun c => .str ⟨#[c]⟩ else none
  | .dk ds, k => (getD? (.dk ds) k).bind fun o => o
  | .dt ds, k => (getD? (.dt ds) k).bind fun o => o
  | _, _ => none
theorem tail_dict {X : Cx} {pins : List (Addr × Obj)} {s : Shared} {σ : L2.St} {H : Hp} {value slice : Expr} {a : Addr} {y : V} {u : Value} {z : V} {Q : VK} (hu : X.A.units + 1 < cLine) (I : Inv X pins σ H s) (g : DGet H a y (some z)) (ry : RelV y u) (q : Q z H)
    (hs : subscripted slice false (.ref a) u = operate [.ref a, u] (getItem (.ref a) u)) : wpAny (model X.prog X.w) X.A (subscriptTail value slice (.ref a) u) (EP X pins σ Q) X.xe s := by
  have hT := dict_typeIs I g
  unfold subscriptTail
  refine wpAny_bind ?_
  rw [getitemInPython_of_ne hT.not_modules]
  refine wpAny_bind (wpAny_specialOf hT PySem.F.slot_dict_getitem.lookup ?_)
  have fin : wpAny (model X.prog X.w) X.A (subscripted slice false (.ref a) u) (fun r s₃ => wpAny (model X.prog X.w) X.A (letTemporaryGo value (.ref a) r >>= fun _ => pure r) (EP X pins σ Q) X.xe s₃) X.xe s := by
    rw [hs]
    exact wpAny_operating (d_getItem hu I g ry fun w' s3 I3 rw' => wpAny_bind (wpAny_letTemporaryGo (wpAny_pure ⟨z, H, I3, rw', q⟩)))
  first
    | exact wpAny_pure (wpAny_bind fin)
    | exact wpAny_bind (wpAny_pure (wpAny_bind fin))
    | exact wpAny_bind fin
theorem RpA.get {K : PySem.W.Frag} {mg : Str → Option Value} {F : Hp} : ∀ {vs : List V} {ds : List D} {i : Nat} {d : D}, RpA K mg F vs ds → ds[i]? = some d → ∃ v, vs[i]? = some v ∧ Rp K mg F v d
  | _, _, i, d, .nil, h => by simp at h
  | _, _, 0, d, .cons r t, h => by simp at h; subst h; exact ⟨_, rfl, r⟩
  | _, _, i + 1, d, .cons r t, h => by
    obtain ⟨v, h1, h2⟩ := RpA.get (i := i) t (by simpa using h)
    exact ⟨v, by simpa using h1, h2⟩
theorem RpA.atI {K : PySem.W.Frag} {mg : Str → Option Value} {F : Hp} {vs : List V} {ds : List D} {i : Int} {d : D} (r : RpA K mg F vs ds) (h : L2.atI ds i = some d) : ∃ v, L2.atI vs i = some v ∧ Rp K mg F v d := by
  unfold L2.atI at h ⊢
  rw [r.length]
  cases e : ixN ds.length i with
  | none => rw [e] at h; cases h
  | some j =>
    rw [e] at h
    obtain ⟨v, h1, h2⟩ := r.get (i := j) h
    exact ⟨v, h1, h2⟩
theorem x_ix {X : Cx} (ok : Γ.Ok G X) : IxR X (rV G fIx) := by
  intro value slice pins s σ H x y v u Q I rx ry h hs
  obtain ⟨F, dx, dy, d, sf, hx, hy, e, h⟩ := h
  unfold fIx at e
  split at e
  · cases hy
    cases hx with
    | lst h1 r1 =>
      obtain ⟨w, e1, rw1⟩ := r1.atI e
      exact ix_list value slice pins s σ H _ _ v u Q I rx ry ⟨_, _, _, w, rfl, rfl, (by rw [ok.K]; exact Same.seq sf h1), e1, h w F H (.refl sf) rw1⟩ hs
  · cases hy
    cases hx with
    | tup h1 r1 =>
      obtain ⟨w, e1, rw1⟩ := r1.atI e
      exact ix_tup value slice pins s σ H _ _ v u Q I rx ry ⟨_, _, _, w, rfl, rfl, by rw [ok.K]; exact sf.tq h1, e1, h w F H (.refl sf) rw1⟩ hs
  · split at e
    · obtain ⟨c, e1, rfl⟩ := map_some e
      cases hy; cases hx
      exact ix_str value slice pins s σ H _ _ v u Q I rx ry ⟨_, _, c, rfl, rfl, by assumption, e1, h _ F H (.refl sf) (.str _)⟩ hs
    · cases e
  · obtain ⟨o, e1, rfl⟩ := bind_some e
    obtain ⟨a, r, rfl, g, c⟩ := getD_of sf hx hy e1
    rcases c with ⟨_, c⟩ | ⟨z, w, rfl, c, rw1⟩
    · cases c
    · cases c
      cases rx
      exact tail_dict (by have := ok.units; omega) I g ry (h z F H (.refl sf) rw1) hs
  · obtain ⟨o, e1, rfl⟩ := bind_some e
    obtain ⟨a, r, rfl, g, c⟩ := getD_of sf hx hy e1
    rcases c with ⟨_, c⟩ | ⟨z, w, rfl, c, rw1⟩
    · cases c
    · cases c
      cases rx
      exact tail_dict (by have := ok.units; omega) I g ry (h z F H (.refl sf) rw1) hs
  · cases e
def plainIx : Expr → Bool | .Slice _ _ _ _ => false | .Tuple _ _ _ => false | .Constant _ _ _ => true | .Name _ _ => true | .BinOp _ _ _ _ => true | .UnaryOp _ _ _ => true | .Subscript _ _ _ => true | .Call _ _ _ _ => true | .Attribute _ _ _ => true | _ => false
theorem plainIx_of {b : Expr} (h : plainIx b = true) : PlainIx b := by
  cases b <;> first | (cases h; done) | (exact fun _ _ => rfl)
theorem ce_ix {a b : Expr} {ma mb : Sl → R D} {pos : Pos} (hp : plainIx b = true) (ha : CE G Γ a ma) (hb : CE G Γ b mb) : CE G Γ (.Subscript a b pos) (m2 fIx ma mb) :=
  fun X ok W tk => PE.imp (pe_ix (x_ix ok) (ha X ok W tk) (hb X ok W tk) (plainIx_of hp)) fun _ _ _ h => two h
def cut {α : Type} (xs : List α) (lo hi : Option Int) : List α := (xs.drop (HT.sIx xs.length 0 lo)).take (HT.sIx xs.length xs.length hi - HT.sIx xs.length 0 lo)
theorem RpA.cut {K : PySem.W.Frag} {mg : Str → Option Value} {F : Hp} {vs : List V} {ds : List D} (r : RpA K mg F vs ds) (lo hi : Option Int) : RpA K mg F (cutV vs lo hi) (Eng.cut ds lo hi) := by
  have td : ∀ (n : Nat) {vs : List V} {ds : List D}, RpA K mg F vs ds → RpA K mg F (vs.drop n) (ds.drop n) := by
    intro n
    induction n with
    | zero => intro vs ds r; exact r
    | succ n ih => intro vs ds r; cases r with
      | nil => exact .nil
      | cons r t => exact ih t
  have tt : ∀ (n : Nat) {vs : List V} {ds : List D}, RpA K mg F vs ds → RpA K mg F (vs.take n) (ds.take n) := by
    intro n
    induction n with
    | zero => intro vs ds r; exact .nil
    | succ n ih => intro vs ds r; cases r with
      | nil => exact .nil
      | cons r t => exact .cons r (ih t)
  unfold cutV Eng.cut
  rw [r.length]
  exact tt _ (td _ r)
def fSl : D → Option Int → Option Int → Option D
  | .lst ds, lo, hi => some (.lst (cut ds lo hi))
  | .tup ds, lo, hi => some (.tup (cut ds lo hi))
  | .str z, lo, hi => if z.length ≤ sizeLine then some (.str (cutS z lo hi)) else none
  | _, _, _ => none
theorem cut_all {α : Type} {xs : List α} {lo hi : Option Int} (h : HT.sIx xs.length 0 lo = 0 ∧ HT.sIx xs.length xs.length hi = xs.length) : cut xs lo hi = xs := by
  unfold cut; rw [h.1, h.2]; simp
def rSl (G : Gd) (f : D → Option Int → Option Int → Option D) : V → Option Int → Option Int → Hp → VK → Prop := fun x lo hi H Q => ∃ F dx d, Same F H ∧ Rp G.K G.mg F x dx ∧ f dx lo hi = some d ∧ ∀ v F' H', Grow G F H F' H' → Rp G.K G.mg F' v d → Q v H'
theorem x_sl {X : Cx} (ok : Γ.Ok G X) : SlR X (rSl G fSl) := by
  intro pins s σ H x v vl vu lo hi sl Q I rx hs pl pu h
  obtain ⟨F, dx, d, sf, hx, e, h⟩ := h
  unfold fSl at e
  split at e
  · cases e
    cases hx with
    | @lst _ us1 _ h1 r1 =>
      refine sl_list pins s σ H _ v vl vu lo hi sl Q I rx hs pl pu ⟨_, us1, rfl, (by rw [ok.K]; exact Same.seq sf h1), fun p hp => ?_⟩
      have g := Grow.new (G := G) sf (.lst (cutV us1 lo hi)) hp
      exact h _ _ _ g (.lst (.inl (.inl upd_same)) (RpA.mono g.sF (r1.cut lo hi)))
  · cases e
    cases hx with
    | @tup _ us1 _ h1 r1 =>
      refine sl_tupA pins s σ H _ v vl vu lo hi sl Q I rx hs pl pu ⟨_, us1, rfl, by rw [ok.K]; exact sf.tq h1, fun hw => ?_, fun _ p hp => ?_⟩
      · refine h _ F H (.refl sf) ?_
        rw [r1.length] at hw
        rw [cut_all hw]; exact .tup h1 r1
      · have g := Grow.new (G := G) sf (.tup (cutV us1 lo hi)) hp
        exact h _ _ _ g (.tup upd_same (RpA.mono g.sF (r1.cut lo hi)))
  · split at e
    · cases e; cases hx
      exact sl_str pins s σ H _ v vl vu lo hi sl Q I rx hs pl pu ⟨_, rfl, by assumption, h _ F H (.refl sf) (.str _)⟩
    · cases e
  · cases e
def asI : D → Option Int | .int i => some i | _ => none
theorem Rp.int_inv {K : PySem.W.Frag} {mg : Str → Option Value} {F : Hp} {v : V} {d : D} {b : Int} (r : Rp K mg F v d) (e : asI d = some b) : v = .int b := by
  cases r <;> first | (cases e; done) | (injection e with e; subst e; rfl)
def tOp1 (G : Gd) (W : WX) (m : Sl → R (Option Int)) : TO := fun σ H Q => ∃ B F0 L F A, Rl G B F0 L F A σ H ∧ pG G W σ F H (m L) fun d F' H' => Q d H'
def CP (G : Gd) (Γ : Gm) (e : Option Expr) (m : Sl → R (Option Int)) : Prop := ∀ X, Γ.Ok G X → ∀ W, Takes X W → PO X e (tOp1 G W m)
theorem PO.imp {X : Cx} {e : Option Expr} {t t' : TO} (h : PO X e t) (i : ∀ σ H Q, t' σ H Q → t σ H Q) : PO X e t' := ⟨fun pins s σ H Q I q => h.run pins s σ H Q I (i σ H Q q)⟩
def mNoP : Sl → R (Option Int) := fun _ => .ok none
def mP (m : Sl → R D) : Sl → R (Option Int) := fun L => (m L).bind fun d => (lift (asI d)).bind fun i => .ok (some i)
theorem cp_none : CP G Γ none mNoP := fun X ok W tk => PO.imp po_none fun σ H Q h => by
  obtain ⟨B, F0, L, F, A, R, h⟩ := h
  exact h F H (Grow.refl R.sf)
theorem cp_some {e : Expr} {m : Sl → R D} (he : CE G Γ e m) : CP G Γ (some e) (mP m) := fun X ok W tk => PO.imp (po_some (he X ok W tk)) fun σ H Q h => by
  obtain ⟨B, F0, L, F, A, R, h⟩ := h
  refine ⟨B, F0, L, F, A, R, (pG.bind h).imp R fun d F1 H1 s1 R1 g1 h1 v rv => ?_⟩
  cases e : asI d with
  | none => rw [e] at h1; exact h1.elim
  | some k => rw [e] at h1; exact ⟨k, rv.int_inv e, h1 F1 H1 (Grow.refl R1.sf)⟩
def mSl (m : Sl → R D) (lo hi : Sl → R (Option Int)) : Sl → R D := fun L => (m L).bind fun x => (lo L).bind fun i => (hi L).bind fun j => lift (fSl x i j)
theorem ce_sl {e : Expr} {lo hi : Option Expr} {m : Sl → R D} {ml mh : Sl → R (Option Int)} {p2 pos : Pos} (he : CE G Γ e m) (hl : CP G Γ lo ml) (hh : CP G Γ hi mh) : CE G Γ (.Subscript e (.Slice lo hi none p2) pos) (mSl m ml mh) := by
  refine fun X ok W tk => PE.imp (pe_slice (x_sl ok) (he X ok W tk) (hl X ok W tk) (hh X ok W tk)) fun σ H Q h => ?_
  obtain ⟨B, F0, L, F, A, R, h⟩ := h
  refine ⟨B, F0, L, F, A, R, (pG.bind h).imp R fun d F1 H1 s1 R1 g1 h1 v rv => ?_⟩
  refine ⟨B, F0, L, F1, A, R1, (pG.bind h1).imp R1 fun i F2 H2 s2 R2 g2 h2 => ?_⟩
  refine ⟨B, F0, L, F2, A, R2, (pG.bind h2).imp R2 fun j F3 H3 s3 R3 g3 h3 => ?_⟩
  cases e : fSl d i j with
  | none => rw [e] at h3; exact h3.elim
  | some r =>
    rw [e] at h3
    exact ⟨F3, d, r, R3.sf, rv.mono (s2.trans s3), e, fun v F' H' g rr => h3 F' H' g v rr⟩
def fNeg : D → Option D | .int i => some (.int (-i)) | _ => none
def m1 (f : D → Option D) (m : Sl → R D) : Sl → R D := fun L => (m L).bind fun x => lift (f x)
theorem ce_neg {a : Expr} {m : Sl → R D} {pos} (ha : CE G Γ a m) : CE G Γ (.UnaryOp .USub a pos) (m1 fNeg m) := by
  refine fun X ok W tk => PE.imp (pe_un un_neg (ha X ok W tk)) fun σ H Q h => ?_
  obtain ⟨B, F0, L, F, A, R, h⟩ := h
  refine ⟨B, F0, L, F, A, R, (pG.bind h).imp R fun d F1 H1 s1 R1 g1 h1 v rv => ?_⟩
  unfold fNeg at h1
  cases rv <;> first | exact h1.elim | skip
  exact ⟨_, rfl, h1 F1 H1 (Grow.refl R1.sf) _ (.int _)⟩
def mCh (f g : D → D → Option D) (a b c : Sl → R D) : Sl → R D := fun L => (a L).bind fun x => (b L).bind fun y => (lift (f x y)).bind fun z => (lift (asB z)).bind fun k => if k = true then (c L).bind fun w => lift (g y w) else .ok (.bl false)
theorem chain {f g : D → D → Option D} {ma mb mc : Sl → R D} {W : WX} {σ : L2.St} {H : Hp} {Q : VK} (h : tE G W (mCh f g ma mb mc) σ H Q) : tChain (rV G f) (rV G g) (tE G W ma) (tE G W mb) (tE G W mc) σ H Q := by
  obtain ⟨B, F0, L, F, A, R, h⟩ := h
  refine ⟨B, F0, L, F, A, R, (pG.bind h).imp R fun dx F1 H1 s1 R1 g1 h1 x rx => ?_⟩
  refine ⟨B, F0, L, F1, A, R1, (pG.bind h1).imp R1 fun dy F2 H2 s2 R2 g2 h2 y ry => ?_⟩
  cases e : f dx dy with
  | none => rw [e] at h2; exact h2.elim
  | some z =>
    rw [e] at h2
    refine ⟨F2, dx, dy, z, R2.sf, rx.mono s2, ry, e, fun v F3 H3 g3 rv => ?_⟩
    have R3 := R2.gr g3
    have h3 : pG G W σ F3 H3 ((lift (asB z)).bind fun k => if k = true then (mc L).bind fun w => lift (g dy w) else .ok (.bl false)) (fun d F' H' => ∀ v, Rp G.K G.mg F' v d → Q v H') := pG.mono g3 h2
    cases e2 : asB z with
    | none => rw [e2] at h3; exact h3.elim
    | some k =>
      rw [e2] at h3
      refine ⟨k, rv.bl_inv e2, ?_⟩
      cases k with
      | false => exact iteF (h3 F3 H3 (Grow.refl R3.sf) _ (.bl false))
      | true =>
        have h3' : pG G W σ F3 H3 ((mc L).bind fun w => lift (g dy w)) (fun d F' H' => ∀ v, Rp G.K G.mg F' v d → Q v H') := h3
        refine iteT ⟨B, F0, L, F3, A, R3, (pG.bind h3').imp R3 fun dw F4 H4 s4 R4 g4 h4 w rw1 => ?_⟩
        cases e3 : g dy dw with
        | none => rw [e3] at h4; exact h4.elim
        | some r =>
          rw [e3] at h4
          exact ⟨F4, dy, dw, r, R4.sf, ry.mono (g3.sF.trans s4), rw1, e3, fun v F' H' g rr => h4 F' H' g v rr⟩
theorem ce_chain {f g : D → D → Option D} {op op' : CmpOp} {a b c : Expr} {ma mb mc : Sl → R D} {pos : Pos} (ho : Op2 G f (compareOp op)) (ho' : Op2 G g (compareOp op')) (hm : behindInMarks op' c = false) (ha : CE G Γ a ma) (hb : CE G Γ b mb) (hc : CE G Γ c mc) :
    CE G Γ (.Compare a [op, op'] [b, c] pos) (mCh f g ma mb mc) :=
  fun X ok W tk => PE.imp (pe_chain (ho X Γ ok) (ho' X Γ ok) (ha X ok W tk) (hb X ok W tk) (hc X ok W tk) hm) fun _ _ _ h => chain h
theorem ct_chain {f g : D → D → Option D} {op op' : CmpOp} {a b c : Expr} {ma mb mc : Sl → R D} {pos : Pos} (ho : Op2 G f (compareOp op)) (ho' : Op2 G g (compareOp op')) (hm : behindInMarks op' c = false) (ha : CE G Γ a ma) (hb : CE G Γ b mb) (hc : CE G Γ c mc) :
    CT G Γ (.Compare a [op, op'] [b, c] pos) (mB (mCh f g ma mb mc)) := by
  refine fun X ok W tk => PT.imp (pt_chain (ho X Γ ok) (ho' X Γ ok) (ha X ok W tk) (hb X ok W tk) (hc X ok W tk) hm) fun σ H Q h => ?_
  obtain ⟨B, F0, L, F, A, R, h⟩ := h
  refine chain (Q := fun x H' => ∃ k, x = .bl k ∧ Q k H') ⟨B, F0, L, F, A, R, (pG.bind h).imp R fun d F1 H1 s1 R1 g1 h1 v rv => ?_⟩
  cases e : asB d with
  | none => rw [e] at h1; exact h1.elim
  | some k => rw [e] at h1; exact ⟨k, rv.bl_inv e, h1 F1 H1 (Grow.refl R1.sf)⟩
end
end Eng
end
section
set_option Elab.async false
set_option linter.all false
set_option maxRecDepth 100000
set_option maxHeartbeats 4000000
namespace Eng
open PySem PySem.Spec PyProof.Rows L2
section
variable {G : Gd} {Γ : Gm}
def glB (sc : Scope) (x : Str) : Bool := match sc.names.lookup x with | some .globalImplicit => true | _ => false
theorem gl_of {X : Cx} {sc : Scope} {x : Str} (hs : X.env.scope = sc) (h : glB sc x = true) : Gl X x := by
  unfold glB at h
  show X.env.scope.names.lookup x = some .globalImplicit
  rw [hs]
  split at h
  · assumption
  · cases h
def mCall (f : List D → R O) (m : Sl → R (List D)) : Sl → R O := fun L => (m L).bind f
theorem fnok {e : FE} {X : Cx} (ok : Γ.Ok G X) {f : Addr} {fd : FuncData} {ps : List Str} (F : FnOk G.P G.w G.K G.mg G.base (L2.CX G.P G.w) e.k f fd ps (spV G e.fn)) : FnOk X.prog X.w X.K X.mg X.base (L2.CX X.prog X.w) e.k f fd ps (spV G e.fn) := by
  rw [ok.prog, ok.w, ok.K, ok.mg, ok.base]; exact F
theorem RpA.same {K : PySem.W.Frag} {mg : Str → Option Value} {F F' : Hp} {vs : List V} {ds : List D} (r : RpA K mg F vs ds) (s : Same F F') : RpA K mg F' vs ds := RpA.mono s r
theorem call_end {e : FE} {W : WX} {F1 H0 H1 : Hp} {σ : L2.St} {vs : List V} {ds : List D} {Q : VK} (sf : Same F1 H1) (tb : Tb0 G H1 F1) (s0 : Kp G H0 H1) (rv : RpA G.K G.mg F1 vs ds)
    (h : pG G W σ F1 H1 (e.fn ds) fun o F' H' => ∀ v C, Ow G.tg G.K G.mg F' H' v o C → C.Nodup → (∀ a ∈ C, F' a = none ∧ H0 a = none) → Q v H') : spV G e.fn vs H1 Q (WE W σ) := by
  refine ⟨F1, ds, sf, tb, rv, ?_⟩
  cases hf : e.fn ds with
  | ok o =>
    rw [hf] at h
    rintro v H' ⟨F, C, s1, s2, s3, s4, ow, nC, fC⟩
    exact h F H' ⟨s3, s1, s2, s4⟩ v C ow nC fun a hc => ⟨(fC a hc).1, s0.free (fC a hc).2⟩
  | exc c =>
    rw [hf] at h
    obtain ⟨C, eC, h⟩ := h
    exact ⟨C, eC, fun H' s s2 => h F1 H' ⟨s, .refl _, s2, fun a z _ => z⟩⟩
  | stuck => rw [hf] at h; exact h.elim
theorem co_call (gr : Γ.Gr G) {e : FE} {a : Expr} {es : List Expr} {m : Sl → R (List D)} {p pos : Pos} (hm : e ∈ Γ.T) (hk : Γ.cm = true ∧ e.k ≤ Γ.k) (hg : glB Γ.sc e.name = true) (hs : nst a = true) (hss : es.all nst = true) (hdb : (e.name == ("__debug__" : Str)) = false)
    (ha : CA G Γ (a :: es) m) : CO G Γ (.Call (.Name e.name p) (a :: es) [] pos) (mCall e.fn m) := by
  refine fun X ok W tk => ?_
  obtain ⟨f, fd, ps, har, hmg, hkp, hb, F⟩ := (gr.fn e hm G.t : FnX G e)
  refine PE.imp (pe_callS (fnok ok F) ((ok.room hk.1).mono hk.2) (gl_of ok.sc hg) (by rw [ok.mg]; exact hmg) (by rw [ok.K]; exact hkp) (by rw [ok.K]; exact hb) (fun σ => passAt tk σ) (ha X ok W tk) hdb (star_cons hs) (star_any hss)) fun σ H Q h => ?_
  obtain ⟨B, F0, L, F, A, R, h⟩ := h
  exact ⟨B, F0, L, F, A, R, (pG.bind h).imp R fun ds F1 H1 s1 R1 g1 h1 vs rv => call_end R1.sf R1.tb0 g1.sH rv h1⟩
def rVs (G : Gd) (f : List D → Option D) : List V → Hp → VK → Prop := fun vs H Q => ∃ F ds d, Same F H ∧ RpA G.K G.mg F vs ds ∧ f ds = some d ∧ ∀ v F' H', Grow G F H F' H' → Rp G.K G.mg F' v d → Q v H'
def mF (f : List D → Option D) (m : Sl → R (List D)) : Sl → R D := fun L => (m L).bind fun ds => lift (f ds)
def Blt (G : Gd) (f : List D → Option D) (u : Value) : Prop := ∀ (X : Cx) (Γ : Gm), Γ.Ok G X → X.calm = true → CallR X u (rVs G f)
theorem args {f : List D → Option D} {m : Sl → R (List D)} {W : WX} {σ : L2.St} {H : Hp} {Q : VK} (h : tE G W (mF f m) σ H Q) : tCB (rVs G f) (tA G W m) σ H Q := by
  obtain ⟨B, F0, L, F, A, R, h⟩ := h
  refine ⟨B, F0, L, F, A, R, (pG.bind h).imp R fun ds F1 H1 s1 R1 g1 h1 vs rv => ?_⟩
  cases e : f ds with
  | none => rw [e] at h1; exact h1.elim
  | some d =>
    rw [e] at h1
    exact ⟨F1, ds, d, R1.sf, rv, e, fun v F' H' g r => h1 F' H' g v r⟩
theorem ce_blt (gr : Γ.Gr G) {f : List D → Option D} {x : Str} {id : String} {a : Expr} {es : List Expr} {m : Sl → R (List D)} {p pos : Pos} (hc : Blt G f (.builtin id)) (hx : x ∈ Γ.X) (hv : bootBuiltins x = some (.builtin id)) (hg : glB Γ.sc x = true) (hs : nst a = true) (hss : es.all nst = true)
    (hn : x ≠ "__name__") (hdb : (x == ("__debug__" : Str)) = false) (hcm : Γ.cm = true) (ha : CA G Γ (a :: es) m) : CE G Γ (.Call (.Name x p) (a :: es) [] pos) (mF f m) :=
  fun X ok W tk => PE.imp (pe_callB (hc X Γ ok (ok.calm hcm)) (gl_of ok.sc hg) (by rw [ok.mg]; exact gr.bl x hx) hv (ha X ok W tk) hn hdb (star_cons hs) (star_any hss)) fun _ _ _ h => args h
theorem ce_ty (gr : Γ.Gr G) {f : List D → Option D} {x : Str} {id : String} {a : Expr} {es : List Expr} {m : Sl → R (List D)} {p pos : Pos} (hc : Blt G f (.type id)) (hx : x ∈ Γ.X) (hv : bootBuiltins x = some (.type id)) (hg : glB Γ.sc x = true) (hs : nst a = true) (hss : es.all nst = true)
    (hn : x ≠ "__name__") (hdb : (x == ("__debug__" : Str)) = false) (hcm : Γ.cm = true) (ha : CA G Γ (a :: es) m) : CE G Γ (.Call (.Name x p) (a :: es) [] pos) (mF f m) :=
  fun X ok W tk => PE.imp (pe_callTy (hc X Γ ok (ok.calm hcm)) (gl_of ok.sc hg) (by rw [ok.mg]; exact gr.bl x hx) hv (ha X ok W tk) hn hdb (star_cons hs) (star_any hss)) fun _ _ _ h => args h
def fLen : List D → Option D
  | [.lst ds] => some (.int ds.length)
  | [.tup ds] => some (.int ds.length)
  | [.str z] => if z.length ≤ sizeLine then some (.int z.length) else none
  | [.dk ds] => some (.int ds.length)
  | [.dt ds] => some (.int ds.length)
  | _ => none
theorem b_len : Blt G fLen (.builtin "len") := by
  intro X Γ ok cl pins s σ H xs us Q I r h
  obtain ⟨F, ds, d, sf, hr, e, h⟩ := h
  unfold fLen at e
  split at e
  · cases e
    cases hr with
    | cons r1 r2 => cases r2; cases r1 with
      | lst h1 r1 => exact call_len pins s σ H _ us Q I r ⟨_, _, rfl, .inl ⟨_, (by rw [ok.K]; exact Same.seq sf h1), r1.length.symm⟩, h _ F H (.refl sf) (.int _)⟩
  · cases e
    cases hr with
    | cons r1 r2 => cases r2; cases r1 with
      | tup h1 r1 => exact call_len pins s σ H _ us Q I r ⟨_, _, rfl, .inr ⟨_, by rw [ok.K]; exact sf.tq h1, r1.length.symm⟩, h _ F H (.refl sf) (.int _)⟩
  · split at e
    · cases e
      cases hr with
      | cons r1 r2 => cases r2; cases r1; exact call_len pins s σ H _ us Q I r ⟨_, _, rfl, ⟨by assumption, rfl⟩, h _ F H (.refl sf) (.int _)⟩
    · cases e
  · cases e
    cases hr with
    | cons r1 r2 => cases r2; cases r1 with
      | dk h1 r1 =>
        obtain ⟨u, rfl, ru⟩ := vals1 r
        cases ru
        refine d_len I (Same.rd sf h1) fun t s' I' => ⟨.int _, H, I', ⟨t, rfl⟩, ?_⟩
        rw [r1.length]
        exact h _ F H (.refl sf) (.int _)
  · cases e
    cases hr with
    | cons r1 r2 => cases r2; cases r1 with
      | dt h1 r1 =>
        obtain ⟨u, rfl, ru⟩ := vals1 r
        cases ru
        obtain ⟨z, hd, ys, rel, dd⟩ := dt_rd I.hok (Same.rd sf h1)
        have hl := Paired.length rel
        refine call_len_dictH hd dd (by rw [← hl]; rw [sizeLine_eq] at z; omega) ?_
        rw [← hl, r1.length]
        exact ⟨.int _, H, I.tok _, ⟨_, rfl⟩, h _ F H (.refl sf) (.int _)⟩
  · cases e
def intsD : List D → Option (List Int)
  | [] => some []
  | .int i :: ds => (intsD ds).map (i :: ·)
  | _ => none
theorem RpA.intsD {K : PySem.W.Frag} {mg : Str → Option Value} {F : Hp} : ∀ {vs : List V} {ds : List D} {ns : List Int}, RpA K mg F vs ds → Eng.intsD ds = some ns → vs = ns.map V.int
  | _, _, _, .nil, e => by unfold Eng.intsD at e; cases e; rfl
  | _, _, _, .cons (d := d) r t, e => by
    cases d with
    | int i =>
      unfold Eng.intsD at e
      obtain ⟨ms, e1, rfl⟩ := map_some e
      cases r
      rw [RpA.intsD t e1]; rfl
    | _ => unfold Eng.intsD at e; cases e
def boolsD : List D → Option (List Bool)
  | [] => some []
  | .bl i :: ds => (boolsD ds).map (i :: ·)
  | _ => none
theorem RpA.boolsD {K : PySem.W.Frag} {mg : Str → Option Value} {F : Hp} : ∀ {vs : List V} {ds : List D} {ns : List Bool}, RpA K mg F vs ds → Eng.boolsD ds = some ns → vs = ns.map V.bl
  | _, _, _, .nil, e => by unfold Eng.boolsD at e; cases e; rfl
  | _, _, _, .cons (d := d) r t, e => by
    cases d with
    | bl i =>
      unfold Eng.boolsD at e
      obtain ⟨ms, e1, rfl⟩ := map_some e
      cases r
      rw [RpA.boolsD t e1]; rfl
    | _ => unfold Eng.boolsD at e; cases e
def strsD : List D → Option (List Str)
  | [] => some []
  | .str i :: ds => (strsD ds).map (i :: ·)
  | _ => none
theorem RpA.strsD {K : PySem.W.Frag} {mg : Str → Option Value} {F : Hp} : ∀ {vs : List V} {ds : List D} {ns : List Str}, RpA K mg F vs ds → Eng.strsD ds = some ns → vs = ns.map V.str
  | _, _, _, .nil, e => by unfold Eng.strsD at e; cases e; rfl
  | _, _, _, .cons (d := d) r t, e => by
    cases d with
    | str i =>
      unfold Eng.strsD at e
      obtain ⟨ms, e1, rfl⟩ := map_some e
      cases r
      rw [RpA.strsD t e1]; rfl
    | _ => unfold Eng.strsD at e; cases e
def fAll : List D → Option D | [.lst ds] => (boolsD ds).map fun ns => .bl (ns.all id) | _ => none
theorem b_all : Blt G fAll (.builtin "all") := by
  intro X Γ ok cl pins s σ H xs us Q I r h
  obtain ⟨F, ds, d, sf, hr, e, h⟩ := h
  unfold fAll at e
  split at e
  · obtain ⟨ns, e1, rfl⟩ := map_some e
    cases hr with
    | cons r1 r2 => cases r2; cases r1 with
      | lst h1 r1 =>
        obtain rfl := r1.boolsD e1
        exact cr_all cl pins s σ H _ us Q I r ⟨_, ns, rfl, (by rw [ok.K]; exact Same.seq sf h1), h _ F H (.refl sf) (.bl _)⟩
  · cases e
def maxI : List Int → Option Int | [] => none | n :: ns => some (ns.foldl max n)
def minI : List Int → Option Int | [] => none | n :: ns => some (ns.foldl min n)
theorem foldl_max : ∀ (ns : List Int) (n : Int), (ns.foldl max n = n ∨ ns.foldl max n ∈ ns) ∧ n ≤ ns.foldl max n ∧ ∀ y ∈ ns, y ≤ ns.foldl max n
  | [], n => ⟨.inl rfl, Int.le_refl _, fun _ m => nomatch m⟩
  | x :: xs, n => by
    obtain ⟨h1, h2, h3⟩ := foldl_max xs (max n x)
    refine ⟨?_, by rw [List.foldl_cons]; omega, fun y hy => ?_⟩
    · rw [List.foldl_cons]
      rcases h1 with h1 | h1
      · rw [h1]
        rcases Int.le_total n x with z | z
        · exact .inr (by rw [Int.max_eq_right z]; exact List.mem_cons_self)
        · exact .inl (Int.max_eq_left z)
      · exact .inr (List.mem_cons_of_mem _ h1)
    · rw [List.foldl_cons]
      rcases List.mem_cons.mp hy with rfl | hy
      · omega
      · exact h3 y hy
theorem foldl_min : ∀ (ns : List Int) (n : Int), (ns.foldl min n = n ∨ ns.foldl min n ∈ ns) ∧ ns.foldl min n ≤ n ∧ ∀ y ∈ ns, ns.foldl min n ≤ y
  | [], n => ⟨.inl rfl, Int.le_refl _, fun _ m => nomatch m⟩
  | x :: xs, n => by
    obtain ⟨h1, h2, h3⟩ := foldl_min xs (min n x)
    refine ⟨?_, by rw [List.foldl_cons]; omega, fun y hy => ?_⟩
    · rw [List.foldl_cons]
      rcases h1 with h1 | h1
      · rw [h1]
        rcases Int.le_total n x with z | z
        · exact .inl (Int.min_eq_left z)
        · exact .inr (by rw [Int.min_eq_right z]; exact List.mem_cons_self)
      · exact .inr (List.mem_cons_of_mem _ h1)
    · rw [List.foldl_cons]
      rcases List.mem_cons.mp hy with rfl | hy
      · omega
      · exact h3 y hy
def fMax : List D → Option D
  | [.lst ds] => (intsD ds).bind fun ns => (maxI ns).map .int
  | [.int i, .int j] => some (.int (max i j))
  | _ => none
def fMin : List D → Option D
  | [.lst ds] => (intsD ds).bind fun ns => (minI ns).map .int
  | [.int i, .int j] => some (.int (min i j))
  | _ => none
theorem b_max : Blt G fMax (.builtin "max") := by
  intro X Γ ok cl pins s σ H xs us Q I r h
  obtain ⟨F, ds, d, sf, hr, e, h⟩ := h
  unfold fMax at e
  split at e
  · obtain ⟨ns, e1, e2⟩ := bind_some e
    obtain ⟨m, e3, rfl⟩ := map_some e2
    cases hr with
    | cons r1 r2 => cases r2; cases r1 with
      | lst h1 r1 =>
        obtain rfl := r1.intsD e1
        cases ns with
        | nil => cases e3
        | cons n ns =>
          cases e3
          obtain ⟨k1, k2, k3⟩ := foldl_max ns n
          refine cr_max cl pins s σ H _ us Q I r ⟨_, n :: ns, rfl, (by rw [ok.K]; exact Same.seq sf h1), by simp, fun m hm hle => ?_⟩
          have : m = ns.foldl max n := by
            apply Int.le_antisymm
            · rcases List.mem_cons.mp hm with rfl | hm
              · exact k2
              · exact k3 m hm
            · rcases k1 with k1 | k1
              · rw [k1]; exact hle n List.mem_cons_self
              · exact hle _ (List.mem_cons_of_mem _ k1)
          rw [this]
          exact h _ F H (.refl sf) (.int _)
  · cases e
    cases hr with
    | cons r1 r2 => cases r2 with
      | cons r2 r3 =>
        cases r3; cases r1; cases r2
        rename_i i j
        refine call_max2 cl pins s σ H _ us Q I r ⟨i, j, rfl, ?_⟩
        have : (if j > i then j else i) = max i j := by split <;> omega
        rw [this]
        exact h _ F H (.refl sf) (.int _)
  · cases e
theorem b_min : Blt G fMin (.builtin "min") := by
  intro X Γ ok cl pins s σ H xs us Q I r h
  obtain ⟨F, ds, d, sf, hr, e, h⟩ := h
  unfold fMin at e
  split at e
  · obtain ⟨ns, e1, e2⟩ := bind_some e
    obtain ⟨m, e3, rfl⟩ := map_some e2
    cases hr with
    | cons r1 r2 => cases r2; cases r1 with
      | lst h1 r1 =>
        obtain rfl := r1.intsD e1
        cases ns with
        | nil => cases e3
        | cons n ns =>
          cases e3
          obtain ⟨k1, k2, k3⟩ := foldl_min ns n
          refine cr_min cl pins s σ H _ us Q I r ⟨_, n :: ns, rfl, (by rw [ok.K]; exact Same.seq sf h1), by simp, fun m hm hle => ?_⟩
          have : m = ns.foldl min n := by
            apply Int.le_antisymm
            · rcases k1 with k1 | k1
              · rw [k1]; exact hle n List.mem_cons_self
              · exact hle _ (List.mem_cons_of_mem _ k1)
            · rcases List.mem_cons.mp hm with rfl | hm
              · exact k2
              · exact k3 m hm
          rw [this]
          exact h _ F H (.refl sf) (.int _)
  · cases e
    cases hr with
    | cons r1 r2 => cases r2 with
      | cons r2 r3 =>
        cases r3; cases r1; cases r2
        rename_i i j
        refine call_min2 cl pins s σ H _ us Q I r ⟨i, j, rfl, ?_⟩
        have : (if j < i then j else i) = min i j := by split <;> omega
        rw [this]
        exact h _ F H (.refl sf) (.int _)
  · cases e
def fInt : List D → Option D
  | [.int i] => some (.int i)
  | [.bl b] => some (.int (if b then 1 else 0))
  | _ => none
theorem b_int : Blt G fInt (.type "int") := by
  intro X Γ ok cl pins s σ H xs us Q I r h
  obtain ⟨F, ds, d, sf, hr, e, h⟩ := h
  unfold fInt at e
  split at e
  · cases e
    cases hr with
    | cons r1 r2 => cases r2; cases r1; exact call_int1 pins s σ H _ us Q I r (.inl ⟨_, rfl, h _ F H (.refl sf) (.int _)⟩)
  · cases e
    cases hr with
    | cons r1 r2 => cases r2; cases r1; exact call_int1 pins s σ H _ us Q I r (.inr ⟨_, rfl, h _ F H (.refl sf) (.int _)⟩)
  · cases e
def fTuple : List D → Option D
  | [.lst ds] => some (.tup ds)
  | [.tup ds] => some (.tup ds)
  | _ => none
theorem b_tuple : Blt G fTuple (.type "tuple") := by
  intro X Γ ok cl pins s σ H xs us Q I r h
  obtain ⟨F, ds, d, sf, hr, e, h⟩ := h
  unfold fTuple at e
  split at e
  · cases e
    cases hr with
    | cons r1 r2 => cases r2; cases r1 with
      | @lst _ us1 _ h1 r1 =>
        refine call_tuple_of pins s σ H _ us Q I r ⟨_, _, rfl, .inl ⟨(by rw [ok.K]; exact Same.seq sf h1), fun p hp => ?_⟩⟩
        have g := Grow.new (G := G) sf (.tup us1) hp
        exact h _ _ _ g (.tup upd_same (RpA.mono g.sF r1))
  · cases e
    cases hr with
    | cons r1 r2 => cases r2; cases r1 with
      | tup h1 r1 => exact call_tuple_of pins s σ H _ us Q I r ⟨_, _, rfl, .inr ⟨by rw [ok.K]; exact sf.tq h1, h _ F H (.refl sf) (.tup h1 r1)⟩⟩
  · cases e
def fIsi (t : String) (d : D) : Option D := match d.py with
  | some p => if t = "int" then some (.bl p.isInt) else if t = "bool" then some (.bl p.isBool) else if t = "str" then some (.bl p.isStr) else if t = "tuple" then some (.bl p.isTuple) else if t = "list" then some (.bl p.isList) else none
  | none => none
theorem ep_tok {X : Cx} {pins : List (Addr × Obj)} {σ : L2.St} {H F : Hp} {s : Shared} {Q : VK} {b : Bool} {t : Nat} (I : Inv X pins σ H s) (sf : Same F H) (h : ∀ v F' H', Grow G F H F' H' → Rp G.K G.mg F' v (.bl b) → Q v H') : EP X pins σ Q (.bool b) { s with toks := t } :=
  ⟨.bl b, H, I.tok t, rfl, h _ F H (.refl sf) (.bl b)⟩
theorem isi_call {X : Cx} (ok : Γ.Ok G X) {t : String} {pins : List (Addr × Obj)} {s : Shared} {σ : L2.St} {F H : Hp} {x : V} {v : Value} {dx d : D} {Q : VK} (I : Inv X pins σ H s) (rx : RelV x v) (sf : Same F H) (hx : Rp G.K G.mg F x dx) (e : fIsi t dx = some d)
    (h : ∀ v F' H', Grow G F H F' H' → Rp G.K G.mg F' v d → Q v H') : wpAny (model X.prog X.w) X.A (call (.builtin "isinstance") [v, .type t]) (EP X pins σ Q) X.xe s := by
  unfold fIsi at e
  split at e
  · rename_i p hp
    obtain ⟨as, r⟩ := Rp.rd ok I sf hx hp rx
    split at e
    · rename_i ht; subst ht; cases e; exact W.isinstance_int_data r fun tk _ => ep_tok I sf h
    · split at e
      · rename_i ht; subst ht; cases e; exact W.isinstance_bool_data r fun tk _ => ep_tok I sf h
      · split at e
        · rename_i ht; subst ht; cases e; exact W.isinstance_str_data r fun tk _ => ep_tok I sf h
        · split at e
          · rename_i ht; subst ht; cases e; exact W.isinstance_tuple_data r fun tk _ => ep_tok I sf h
          · split at e
            · rename_i ht; subst ht; cases e; exact W.isinstance_list_data r fun tk _ => ep_tok I sf h
            · cases e
  · cases e
theorem ce_isi (gr : Γ.Gr G) {x : Str} {t : String} {a : Expr} {m : Sl → R D} {p p2 pos : Pos} (hx : ("isinstance" : Str) ∈ Γ.X) (hxt : x ∈ Γ.X) (hg : glB Γ.sc "isinstance" = true) (hgt : glB Γ.sc x = true) (hv : bootBuiltins x = some (.type t)) (hn : x ≠ "__name__") (hdb : (x == ("__debug__" : Str)) = false)
    (hs : nst a = true) (ha : CE G Γ a m) : CE G Γ (.Call (.Name "isinstance" p) [a, .Name x p2] [] pos) (m1 (fIsi t) m) := by
  refine fun X ok W tk => ⟨fun pins s σ H Q I h => ?_⟩
  obtain ⟨B, F0, L, F, A, R, h⟩ := h
  refine wpAny_Call_Name_kw (ld_blt I (gl_of ok.sc hg) (by rw [ok.mg]; exact gr.bl _ hx) boot_isinstance ?_ (by decide) (by decide))
  have pt : PE X (.Name x p2) (tC (.ty t)) := pe_bltn (gl_of ok.sc hgt) (by rw [ok.mg]; exact gr.bl _ hxt) hv rfl hn hdb
  have pa : PA X [a, .Name x p2] (tCons (tE G W m) (tCons (tC (.ty t)) tNil)) := pa_cons (ha X ok W tk) (pa_cons pt pa_nil rfl) (star_cons hs)
  refine PyProof.Rows.callWith_builtin1 (thn (pa.run pos pins s σ H (fun vs H1 => ∃ x, vs = [x, .ty t] ∧ ∃ F1 dx d, Same F1 H1 ∧ Rp G.K G.mg F1 x dx ∧ fIsi t dx = some d ∧ ∀ v F' H', Grow G F1 H1 F' H' → Rp G.K G.mg F' v d → Q v H') I ?_) fun us s1 hh => ?_) (star_cons hs) rfl
  · refine ⟨B, F0, L, F, A, R, (pG.bind h).imp R fun dx F1 H1 s1 R1 g1 h1 v rv => ⟨v, rfl, F1, dx, ?_⟩⟩
    cases e : fIsi t dx with
    | none => rw [e] at h1; exact h1.elim
    | some d => rw [e] at h1; exact ⟨d, R1.sf, rv, rfl, fun v F' H' g r => h1 F' H' g v r⟩
  · obtain ⟨vs, H1, I1, rvs, x', rfl, F1, dx, d, sf, hx', e, q⟩ := hh
    cases rvs with
    | cons r1 r2 => cases r2 with
      | cons r2 r3 =>
        cases r3
        cases r2
        exact isi_call ok I1 r1 sf hx' e q
theorem ce_glob (gr : Γ.Gr G) {x : Str} {d : D} {pos : Pos} (hm : (x, d) ∈ Γ.C) (hg : glB Γ.sc x = true) (hdb : (x == ("__debug__" : Str)) = false) : CE G Γ (.Name x pos) (mC d) := by
  obtain ⟨u, v, e1, e2, e3⟩ := gr.cs _ hm
  refine fun X ok W tk => PE.imp (pe_glob (gl_of ok.sc hg) (by rw [ok.mg]; exact e1) e2 hdb) fun σ H Q h => ?_
  obtain ⟨B, F0, L, F, A, R, h⟩ := h
  exact h F H (Grow.refl R.sf) v (e3 F)
end
end Eng
end
section
set_option Elab.async false
set_option linter.all false
set_option maxRecDepth 100000
set_option maxHeartbeats 4000000
namespace Eng
open PySem PySem.Spec PyProof.Rows L2
section
variable {G : Gd} {Γ : Gm}
structure ItD (G : Gd) (J : It) (ds : List D) (F : Hp) : Prop where
  go : ∀ (i : Nat) (F' H' : Hp), Same F F' → Same F' H' → i < ds.length → J.go i H'
  st : ∀ (i : Nat) (F' H' : Hp), Same F F' → Same F' H' → ds.length ≤ i → J.stop i H'
  yl : ∀ (i : Nat) (F' H' : Hp) (x : V) (H'' : Hp), Same F F' → Same F' H' → i < ds.length → J.yld i H' x H'' → ∃ d F'', ds[i]? = some d ∧ Grow G F' H' F'' H'' ∧ Rp G.K G.mg F'' x d
def tI (G : Gd) (W : WX) (m : Sl → R (List D)) : TI := fun σ H Rr => ∃ B F0 L F A, Rl G B F0 L F A σ H ∧ pG G W σ F H (m L) fun ds F' H' => ∀ J, ItD G J ds F' → Rr J H'
def CI (G : Gd) (Γ : Gm) (tg e : Expr) (m : Sl → R (List D)) : Prop := ∀ X, Γ.Ok G X → ∀ W, Takes X W → PI X tg e (tI G W m)
theorem piImp {X : Cx} {tg e : Expr} {t t' : TI} (h : PI X tg e t) (i : ∀ σ H Q, t' σ H Q → t σ H Q) : PI X tg e t' := ⟨fun pins s σ H Q I q => h.run pins s σ H Q I (i σ H Q q)⟩
theorem piOr {X : Cx} {tg e : Expr} {t t' : TI} (h : PI X tg e t) (h' : PI X tg e t') : PI X tg e (fun σ H Q => t σ H Q ∨ t' σ H Q) := ⟨fun pins s σ H Q I q => q.elim (h.run pins s σ H Q I) (h'.run pins s σ H Q I)⟩
theorem get_none {α : Type} {l : List α} {i : Nat} {x : α} (h : l[i]? = some x) : i < l.length := (List.getElem?_eq_some_iff.mp h).1
theorem itD_list {X : Cx} (ok : Γ.Ok G X) {F : Hp} {a : Addr} {us : List V} {ds : List D} (h : SqL G.K F a us) (r : RpA G.K G.mg F us ds) : ItD G (Itl X.K a) ds F where
  go := fun i F' H' s s' hi => by
    obtain ⟨v, e, _⟩ := r.get (List.getElem?_eq_getElem hi)
    exact ⟨us, v, (by rw [ok.K]; exact Same.seq (s.trans s') h), e⟩
  st := fun i F' H' s s' hi => ⟨us, (by rw [ok.K]; exact Same.seq (s.trans s') h), by rw [r.length]; exact hi⟩
  yl := fun i F' H' x H'' s s' hi y => by
    obtain ⟨rfl, y⟩ := y
    have e := y us ((by rw [ok.K]; exact Same.seq (s.trans s') h))
    obtain ⟨v, e2, rv⟩ := r.get (List.getElem?_eq_getElem hi)
    rw [e] at e2; cases e2
    exact ⟨_, F', List.getElem?_eq_getElem hi, .refl s', rv.mono s⟩
theorem itD_tup {X : Cx} (ok : Γ.Ok G X) {F : Hp} {a : Addr} {us : List V} {ds : List D} (h : SqT G.K F a us) (r : RpA G.K G.mg F us ds) : ItD G (Itt X.K a) ds F where
  go := fun i F' H' s s' hi => by
    obtain ⟨v, e, _⟩ := r.get (List.getElem?_eq_getElem hi)
    exact ⟨us, v, by rw [ok.K]; exact (s.trans s').seqT h, e⟩
  st := fun i F' H' s s' hi => ⟨us, by rw [ok.K]; exact (s.trans s').seqT h, by rw [r.length]; exact hi⟩
  yl := fun i F' H' x H'' s s' hi y => by
    obtain ⟨rfl, y⟩ := y
    have e := y us (by rw [ok.K]; exact (s.trans s').seqT h)
    obtain ⟨v, e2, rv⟩ := r.get (List.getElem?_eq_getElem hi)
    rw [e] at e2; cases e2
    exact ⟨_, F', List.getElem?_eq_getElem hi, .refl s', rv.mono s⟩
def signs (z : Str) : List D := z.cps.toList.map fun c => .str ⟨#[c]⟩
theorem itD_str {F : Hp} {z : Str} : ItD G (Its z) (signs z) F where
  go := fun i F' H' s s' hi => by show i < z.cps.size; simpa [signs] using hi
  st := fun i F' H' s s' hi => by show z.cps.size ≤ i; simpa [signs] using hi
  yl := fun i F' H' x H'' s s' hi y => by
    obtain ⟨rfl, c, e, rfl⟩ := y
    refine ⟨.str ⟨#[c]⟩, F', ?_, .refl s', .str _⟩
    unfold signs
    rw [List.getElem?_map]
    have : z.cps.toList[i]? = some c := by simpa using e
    rw [this]; rfl
def itemsD : D → Option (List D)
  | .lst ds => some ds
  | .tup ds => some ds
  | .str z => some (signs z)
  | _ => none
def mIt (m : Sl → R D) : Sl → R (List D) := fun L => (m L).bind fun d => lift (itemsD d)
theorem ci_val {tg e : Expr} {m : Sl → R D} (he : CE G Γ e m) : CI G Γ tg e (mIt m) := by
  refine fun X ok W tk => piImp (piOr (piOr (pi_list (he X ok W tk)) (pi_tup (he X ok W tk))) (pi_str (he X ok W tk))) fun σ H Q h => ?_
  obtain ⟨B, F0, L, F, A, R, h⟩ := h
  have h := pG.bind h
  cases em : m L with
  | stuck => rw [em] at h; exact h.elim
  | exc c => refine .inl (.inl ⟨B, F0, L, F, A, R, ?_⟩); rw [em] at h ⊢; exact h
  | ok d =>
    rw [em] at h
    cases ed : itemsD d with
    | none => exact (show False by
        have : pG G W σ F H (lift (itemsD d)) (fun ds F' H' => ∀ J, ItD G J ds F' → Q J H') := h F H (.refl R.sf)
        rw [ed] at this; exact this).elim
    | some ds =>
      have key : ∀ F' H', Grow G F H F' H' → ∀ J, ItD G J ds F' → Q J H' := fun F' H' g => by
        have : pG G W σ F' H' (lift (itemsD d)) (fun ds F' H' => ∀ J, ItD G J ds F' → Q J H') := h F' H' g
        rw [ed] at this
        exact this F' H' (.refl g.le)
      cases d with
      | lst xs =>
        cases ed
        refine .inl (.inl ⟨B, F0, L, F, A, R, ?_⟩)
        rw [em]
        intro F' H' g v rv
        cases rv with
        | lst h1 r1 => exact ⟨_, rfl, ⟨_, (by rw [ok.K]; exact Same.seq g.le h1)⟩, key F' H' g _ (itD_list ok h1 r1)⟩
      | tup xs =>
        cases ed
        refine .inl (.inr ⟨B, F0, L, F, A, R, ?_⟩)
        rw [em]
        intro F' H' g v rv
        cases rv with
        | tup h1 r1 => exact ⟨_, rfl, ⟨_, by rw [ok.K]; exact g.le.tq h1⟩, key F' H' g _ (itD_tup ok (.inl (.inl h1)) r1)⟩
      | str z =>
        cases ed
        refine .inr ⟨B, F0, L, F, A, R, ?_⟩
        rw [em]
        intro F' H' g v rv
        cases rv
        exact ⟨_, rfl, key F' H' g _ itD_str⟩
      | _ => cases ed
def rng (lo : Int) (n : Nat) : List D := (List.range n).map fun (i : Nat) => .int (lo + (i : Int))
theorem itD_rng {F : Hp} {lo : Int} {n : Nat} : ItD G (Itr lo n) (rng lo n) F where
  go := fun i F' H' s s' hi => by show i < n; simpa [rng] using hi
  st := fun i F' H' s s' hi => by show n ≤ i; simpa [rng] using hi
  yl := fun i F' H' x H'' s s' hi y => by
    obtain ⟨rfl, rfl⟩ := y
    refine ⟨.int (lo + i), F', ?_, .refl s', .int _⟩
    have hi' : i < n := by simpa [rng] using hi
    unfold rng
    rw [List.getElem?_map, List.getElem?_range hi']; rfl
def fitR (i : Int) : Prop := -4611686018427387904 ≤ i ∧ i < 4611686018427387904
instance (i : Int) : Decidable (fitR i) := by unfold fitR; infer_instance
def rng1 : D → Option (List D) | .int j => if fitR j then some (rng 0 j.toNat) else none | _ => none
def rng2 : D → D → Option (List D) | .int i, .int j => if fitR i ∧ fitR j then some (rng i (j - i).toNat) else none | _, _ => none
def mRg1 (m : Sl → R D) : Sl → R (List D) := fun L => (m L).bind fun d => lift (rng1 d)
def mRg2 (a b : Sl → R D) : Sl → R (List D) := fun L => (a L).bind fun x => (b L).bind fun y => lift (rng2 x y)
theorem star1 {a : Expr} {env : Env} (h : nst a = true) : starEach [a] env = [(false, eval a env)] := by rw [star_cons h]; rfl
theorem star2 {a b : Expr} {env : Env} (h : nst a = true) (h' : nst b = true) : starEach [a, b] env = [(false, eval a env), (false, eval b env)] := by rw [star_cons h, star1 h']
theorem ci_rng1 (gr : Γ.Gr G) {tg a : Expr} {m : Sl → R D} {p pos : Pos} (hx : ("range" : Str) ∈ Γ.X) (hg : glB Γ.sc "range" = true) (hs : nst a = true) (ha : CE G Γ a m) : CI G Γ tg (.Call (.Name "range" p) [a] [] pos) (mRg1 m) := by
  refine fun X ok W tk => piImp (pi_range1 (gl_of ok.sc hg) (by rw [ok.mg]; exact gr.bl _ hx) (pa_cons (ha X ok W tk) pa_nil (star_cons hs)) (star1 hs)) fun σ H Q h => ?_
  obtain ⟨B, F0, L, F, A, R, h⟩ := h
  refine ⟨B, F0, L, F, A, R, (pG.bind h).imp R fun d F1 H1 s1 R1 g1 h1 v rv => ?_⟩
  cases ed : rng1 d with
  | none => rw [ed] at h1; exact h1.elim
  | some es =>
    rw [ed] at h1
    unfold rng1 at ed
    split at ed
    · split at ed
      · rename_i hj
        cases ed; cases rv
        unfold fitR at hj
        exact ⟨_, rfl, by omega, by omega, h1 F1 H1 (Grow.refl R1.sf) _ itD_rng⟩
      · cases ed
    · cases ed
theorem ci_rng2 (gr : Γ.Gr G) {tg a b : Expr} {ma mb : Sl → R D} {p pos : Pos} (hx : ("range" : Str) ∈ Γ.X) (hg : glB Γ.sc "range" = true) (hs : nst a = true) (hs' : nst b = true) (ha : CE G Γ a ma) (hb : CE G Γ b mb) : CI G Γ tg (.Call (.Name "range" p) [a, b] [] pos) (mRg2 ma mb) := by
  refine fun X ok W tk => piImp (pi_range2 (gl_of ok.sc hg) (by rw [ok.mg]; exact gr.bl _ hx) (pa_cons (ha X ok W tk) (pa_cons (hb X ok W tk) pa_nil (star_cons hs')) (star_cons hs)) (star2 hs hs') (star1 hs')) fun σ H Q h => ?_
  obtain ⟨B, F0, L, F, A, R, h⟩ := h
  refine ⟨B, F0, L, F, A, R, (pG.bind h).imp R fun d F1 H1 s1 R1 g1 h1 v rv => ?_⟩
  refine ⟨B, F0, L, F1, A, R1, (pG.bind h1).imp R1 fun d2 F2 H2 s2 R2 g2 h2 v2 rv2 => ?_⟩
  cases ed : rng2 d d2 with
  | none => rw [ed] at h2; exact h2.elim
  | some es =>
    rw [ed] at h2
    unfold rng2 at ed
    split at ed
    · split at ed
      · rename_i hj
        cases ed; cases rv; cases rv2
        unfold fitR at hj
        exact ⟨_, _, rfl, ⟨by omega, by omega, by omega, by omega⟩, h2 F2 H2 (Grow.refl R2.sf) _ itD_rng⟩
      · cases ed
    · cases ed
def enumD (ds : List D) : List D := ds.zipIdx.map fun p => .tup [.int (p.2 : Int), p.1]
theorem itD_enum {X : Cx} (ok : Γ.Ok G X) {F : Hp} {a : Addr} {us : List V} {ds : List D} (h : SqL G.K F a us) (r : RpA G.K G.mg F us ds) : ItD G (Ite X.K a) (enumD ds) F where
  go := fun i F' H' s s' hi => by
    have hi : i < ds.length := by simpa [enumD] using hi
    obtain ⟨v, e, _⟩ := r.get (List.getElem?_eq_getElem hi)
    exact ⟨us, v, (by rw [ok.K]; exact Same.seq (s.trans s') h), e⟩
  st := fun i F' H' s s' hi => ⟨us, (by rw [ok.K]; exact Same.seq (s.trans s') h), by rw [r.length]; simpa [enumD] using hi⟩
  yl := fun i F' H' x H'' s s' hi y => by
    have hi : i < ds.length := by simpa [enumD] using hi
    obtain ⟨T, y0, rfl, hT, rfl, y⟩ := y
    have e := y us ((by rw [ok.K]; exact Same.seq (s.trans s') h))
    obtain ⟨v, e2, rv⟩ := r.get (List.getElem?_eq_getElem hi)
    rw [e] at e2; cases e2
    have g := Grow.new (G := G) s' (.tup [.int (i : Nat), y0]) hT
    refine ⟨.tup [.int (i : Int), ds[i]], _, ?_, g, .tup upd_same (.cons (.int _) (.cons (rv.mono (s.trans g.sF)) .nil))⟩
    unfold enumD
    rw [List.getElem?_map, List.getElem?_zipIdx, List.getElem?_eq_getElem hi]
    simp
def lstD : D → Option (List D) | .lst ds => some ds | _ => none
def mEn (m : Sl → R D) : Sl → R (List D) := fun L => (m L).bind fun d => lift ((lstD d).map enumD)
theorem Rp.lst_inv {K : PySem.W.Frag} {mg : Str → Option Value} {F : Hp} {v : V} {d : D} {ds : List D} (r : Rp K mg F v d) (e : lstD d = some ds) : ∃ a us, v = .ref a ∧ SqL K F a us ∧ RpA K mg F us ds := by
  cases r <;> first | (cases e; done) | skip
  cases e
  exact ⟨_, _, rfl, by assumption, by assumption⟩
theorem ci_enum (gr : Γ.Gr G) {elts : List Expr} {kk : Nat} {tpos : Pos} {a : Expr} {m : Sl → R D} {p pos : Pos} (hx : ("enumerate" : Str) ∈ Γ.X) (hg : glB Γ.sc "enumerate" = true) (hs : nst a = true) (ha : CE G Γ a m) : CI G Γ (.Tuple elts kk tpos) (.Call (.Name "enumerate" p) [a] [] pos) (mEn m) := by
  refine fun X ok W tk => piImp (pi_enum (gl_of ok.sc hg) (by rw [ok.mg]; exact gr.bl _ hx) (pa_cons (ha X ok W tk) pa_nil (star_cons hs)) (star1 hs)) fun σ H Q h => ?_
  obtain ⟨B, F0, L, F, A, R, h⟩ := h
  refine ⟨B, F0, L, F, A, R, (pG.bind h).imp R fun d F1 H1 s1 R1 g1 h1 v rv => ?_⟩
  cases ed : lstD d with
  | none => rw [ed] at h1; exact h1.elim
  | some es =>
    rw [ed] at h1
    obtain ⟨b, us, rfl, hb, r⟩ := rv.lst_inv ed
    exact ⟨b, us, rfl, (by rw [ok.K]; exact Same.seq R1.sf hb), h1 F1 H1 (Grow.refl R1.sf) _ (itD_enum ok hb r)⟩
def zipD (xs ys : List D) : List D := (xs.zip ys).map fun p => .tup [p.1, p.2]
def mZip (a b : Sl → R D) : Sl → R (List D) := fun L => (a L).bind fun x => (b L).bind fun y => lift ((lstD x).bind fun xs => (lstD y).map fun ys => zipD xs ys)
def Out (vs : List Nat) (σ σ' : L2.St) : Prop := σ'.length = σ.length ∧ ∀ j, j ∉ vs → σ'[j]? = σ[j]?
def gD (G : Gd) (vs : List Nat) (m : D → Sl → Option Sl) : TG := fun v σ H Q => ∃ B F0 L F A d, Rl G B F0 L F A σ H ∧ Rp G.K G.mg F v d ∧ ∃ L', m d L = some L' ∧ ∀ σ' A', Out vs σ σ' → (∀ a ∈ A', a ∈ A) → Rl G B F0 L' F A' σ' H → Q σ' H
def gDs (G : Gd) (vs : List Nat) (m : List D → Sl → Option Sl) : TGs := fun us σ H Q => ∃ B F0 L F A ds, Rl G B F0 L F A σ H ∧ RpA G.K G.mg F us ds ∧ ∃ L', m ds L = some L' ∧ ∀ σ' A', Out vs σ σ' → (∀ a ∈ A', a ∈ A) → Rl G B F0 L' F A' σ' H → Q σ' H
def CG (G : Gd) (Γ : Gm) (e : Expr) (vs : List Nat) (m : D → Sl → Option Sl) : Prop := ∀ X, Γ.Ok G X → PG X e (gD G vs m)
def CGs (G : Gd) (Γ : Gm) (e : List Expr) (vs : List Nat) (m : List D → Sl → Option Sl) : Prop := ∀ X, Γ.Ok G X → PGs X e (gDs G vs m)
theorem pgImp {X : Cx} {e : Expr} {t t' : TG} (h : PG X e t) (i : ∀ v σ H Q, t' v σ H Q → t v σ H Q) : PG X e t' := ⟨fun pins s σ H v u Q I r q => h.run pins s σ H v u Q I r (i v σ H Q q)⟩
theorem pgsImp {X : Cx} {e : List Expr} {t t' : TGs} (h : PGs X e t) (i : ∀ v σ H Q, t' v σ H Q → t v σ H Q) : PGs X e t' := ⟨fun pins s σ H v u Q I r q => h.run pins s σ H v u Q I r (i v σ H Q q)⟩
theorem pgOr {X : Cx} {e : Expr} {t t' : TG} (h : PG X e t) (h' : PG X e t') : PG X e (fun v σ H Q => t v σ H Q ∨ t' v σ H Q) := ⟨fun pins s σ H v u Q I r q => q.elim (h.run pins s σ H v u Q I r) (h'.run pins s σ H v u Q I r)⟩
def put (i : Nat) (d : D) (L : Sl) : Option Sl := if okSet L i = true then some (L.set i (some (.v d))) else none
def locB (sc : Scope) (x : Str) : Bool := match sc.names.lookup x with | some .local => true | some .cell => true | _ => false
theorem loc_of {sc : Scope} {x : Str} (h : locB sc x = true) : L2.Loc sc x := by
  unfold locB at h
  unfold L2.Loc
  split at h <;> simp_all
theorem cg_name {i : Nat} {x : Str} {pos : Pos} (hN : Γ.N[i]? = some x) (hx : locB Γ.sc x = true) (hf : Γ.st x = true) : CG G Γ (.Name x pos) [i] (put i) := by
  refine fun X ok => pgImp (pg_name (i := i) (by rw [ok.N]; exact ok.nd) (by rw [ok.N]; exact hN) (by rw [ok.sc]; exact loc_of hx) (ok.fnl x hf)) fun v σ H Q h => ?_
  obtain ⟨B, F0, L, F, A, d, R, rv, L', e, h⟩ := h
  unfold put at e
  split at e
  · rename_i hi
    cases e
    obtain ⟨A', h2, R'⟩ := R.set' (okSet_of hi).1 (okSet_of hi).2 rv
    exact h _ A' ⟨by simp, fun j hj => by rw [List.getElem?_set_ne (fun z => hj (by simp [z]))]⟩ h2 R'
  · cases e
def putNil (ds : List D) (L : Sl) : Option Sl := match ds with | [] => some L | _ => none
def putCons (m : D → Sl → Option Sl) (r : List D → Sl → Option Sl) (ds : List D) (L : Sl) : Option Sl := match ds with | [] => none | d :: ds => (m d L).bind (r ds)
theorem cgs_nil : CGs G Γ [] [] putNil := fun X ok => pgsImp pgs_nil fun v σ H Q h => by
  obtain ⟨B, F0, L, F, A, d, R, rv, L', e, h⟩ := h
  cases rv with
  | nil => cases e; exact ⟨rfl, h σ A ⟨rfl, fun _ _ => rfl⟩ (fun _ m => m) R⟩
  | cons => cases e
def plainTg : Expr → Bool | .Name _ _ => true | .Tuple _ _ _ => true | .Subscript _ _ _ => true | .Attribute _ _ _ => true | _ => false
theorem each_cons {e : Expr} {es : List Expr} {env : Env} (h : plainTg e = true) : (assignEach (e :: es) env).map (·.2) = assign e env :: (assignEach es env).map (·.2) := by
  cases e <;> first | rfl | (cases h; done)
theorem cgs_cons {e : Expr} {es : List Expr} {vs ws : List Nat} {m : D → Sl → Option Sl} {r : List D → Sl → Option Sl} (hp : plainTg e = true) (h1 : CG G Γ e vs m) (h2 : CGs G Γ es ws r) : CGs G Γ (e :: es) (vs ++ ws) (putCons m r) := by
  refine fun X ok => pgsImp (pgs_cons (h1 X ok) (h2 X ok) (each_cons hp)) fun v σ H Q h => ?_
  obtain ⟨B, F0, L, F, A, d, R, rv, L', e, h⟩ := h
  cases rv with
  | nil => cases e
  | cons r1 r2 =>
    unfold putCons at e
    obtain ⟨L1, e1, e2⟩ := bind_some e
    refine ⟨_, _, rfl, B, F0, L, F, A, _, R, r1, L1, e1, fun σ' A' o1 s1 R1 => ?_⟩
    refine ⟨B, F0, L1, F, A', _, R1, r2, L', e2, fun σ2 A2 o2 s2 R2 => ?_⟩
    exact h σ2 A2 ⟨o2.1.trans o1.1, fun j hj => (o2.2 j fun z => hj (List.mem_append_right _ z)).trans (o1.2 j fun z => hj (List.mem_append_left _ z))⟩ (fun a m => s1 a (s2 a m)) R2
def putTup (n : Nat) (r : List D → Sl → Option Sl) (d : D) (L : Sl) : Option Sl := match d with
  | .tup ds => if ds.length = n then r ds L else none
  | .lst ds => if ds.length = n then r ds L else none
  | _ => none
theorem each_len {env : Env} : ∀ {es : List Expr}, (es.all plainTg) = true → (assignEach es env).length = es.length ∧ (assignEach es env).findIdx? (·.1) = none
  | [], _ => ⟨rfl, rfl⟩
  | e :: es, h => by
    rw [List.all_cons, Bool.and_eq_true] at h
    obtain ⟨i1, i2⟩ := each_len (env := env) h.2
    have q : assignEach (e :: es) env = (false, assign e env) :: assignEach es env := by
      cases e <;> first | rfl | (cases h.1; done)
    rw [q]
    refine ⟨by rw [List.length_cons, List.length_cons, i1], ?_⟩
    rw [List.findIdx?_cons]
    simp [i2]
theorem cg_tup {es : List Expr} {k : Nat} {pos : Pos} {vs : List Nat} {r : List D → Sl → Option Sl} (hpc : (es.all plainTg && Γ.cm) = true) (h : CGs G Γ es vs r) : CG G Γ (.Tuple es k pos) vs (putTup es.length r) := by
  have hp := (by rw [Bool.and_eq_true] at hpc; exact hpc.1 : es.all plainTg = true)
  have hcm := (by rw [Bool.and_eq_true] at hpc; exact hpc.2 : Γ.cm = true)
  refine fun X ok => pgImp (pgOr (pg_tup (ok.calm hcm) (h X ok) (each_len hp).1 (each_len hp).2) (pg_lst (ok.calm hcm) (h X ok) (each_len hp).1 (each_len hp).2)) fun v σ H Q h => ?_
  obtain ⟨B, F0, L, F, A, d, R, rv, L', e, h⟩ := h
  unfold putTup at e
  split at e
  · split at e
    · rename_i hl
      cases rv with
      | tup h1 r1 => exact .inl ⟨_, _, rfl, by rw [ok.K]; exact R.sf.tq h1, by rw [r1.length]; exact hl, B, F0, L, F, A, _, R, r1, L', e, h⟩
    · cases e
  · split at e
    · rename_i hl
      cases rv with
      | lst h1 r1 => exact .inr ⟨_, _, rfl, (by rw [ok.K]; exact Same.seq R.sf h1), by rw [r1.length]; exact hl, B, F0, L, F, A, _, R, r1, L', e, h⟩
    · cases e
  · cases e
end
def wipeL (L : Sl) : List Nat → Sl
  | [] => L
  | v :: vs => (wipeL L vs).set v none
def okW (L : Sl) (vs : List Nat) : Bool := vs.all fun v => !isPin L v
theorem pin_wipe {L : Sl} {j : Nat} : ∀ {vs : List Nat}, isPin (wipeL L vs) j = true → isPin L j = true
  | [], h => h
  | v :: vs, h => by
    unfold wipeL at h
    apply pin_wipe (vs := vs)
    unfold isPin at h ⊢
    by_cases e : v = j
    · subst e
      by_cases hl : v < (wipeL L vs).length
      · rw [List.getElem?_set_self hl] at h; cases h
      · rw [List.getElem?_eq_none (by rw [List.length_set]; omega)] at h; cases h
    · rw [List.getElem?_set_ne e] at h; exact h
section
variable {G : Gd} {Γ : Gm} {B : Bd} {F0 F H : Hp} {L : Sl} {A : List Addr} {σ : L2.St}
theorem Rl.wipe (R : Rl G B F0 L F A σ H) : ∀ vs : List Nat, okW L vs = true → ∃ A', (∀ a ∈ A', a ∈ A) ∧ Rl G B F0 (wipeL L vs) F A' (L2.wipe σ vs) H
  | [], _ => ⟨A, fun _ m => m, R⟩
  | v :: vs, h => by
    unfold okW at h
    rw [List.all_cons, Bool.and_eq_true] at h
    obtain ⟨A1, h1, R1⟩ := R.wipe vs h.2
    have hv : isPin L v = false := by simpa using h.1
    obtain ⟨A2, h2, R2⟩ := R1.drop v none (by
      cases e : isPin (wipeL L vs) v with
      | false => rfl
      | true => rw [pin_wipe e] at hv; cases hv)
    exact ⟨A2, fun a m => h1 a (h2 a m), R2⟩
theorem wipe_at {σ : L2.St} : ∀ {vs : List Nat} {j : Nat}, (L2.wipe σ vs)[j]? = if j ∈ vs ∧ j < σ.length then some none else σ[j]?
  | [], j => by simp [L2.wipe]
  | v :: vs, j => by
    unfold L2.wipe
    by_cases h : j = v
    · subst h
      by_cases hl : j < σ.length
      · rw [List.getElem?_set_self (by rw [wipe_length]; exact hl), if_pos ⟨List.mem_cons_self, hl⟩]
      · rw [if_neg (fun z => hl z.2), List.getElem?_eq_none (by rw [List.length_set, wipe_length]; omega), List.getElem?_eq_none (by omega)]
    · rw [List.getElem?_set_ne (Ne.symm h), wipe_at]
      have : (j ∈ v :: vs) ↔ j ∈ vs := by simp [h]
      simp only [this]
theorem wipe_out {vs ws : List Nat} {σ σ' : L2.St} (h : Out vs σ σ') (s : ∀ i ∈ vs, i ∈ ws) : L2.wipe σ' ws = L2.wipe σ ws := by
  apply List.ext_getElem?
  intro j
  rw [wipe_at, wipe_at, h.1]
  by_cases hj : j ∈ ws ∧ j < σ.length
  · rw [if_pos hj, if_pos hj]
  · rw [if_neg hj, if_neg hj]
    by_cases hv : j ∈ vs
    · have : ¬ j < σ.length := fun z => hj ⟨s j hv, z⟩
      rw [List.getElem?_eq_none (by rw [h.1]; omega), List.getElem?_eq_none (by omega)]
    · exact h.2 j hv
theorem wipe_wipe {ws : List Nat} {σ : L2.St} : L2.wipe (L2.wipe σ ws) ws = L2.wipe σ ws := by
  apply List.ext_getElem?
  intro j
  rw [wipe_at, wipe_at, wipe_length]
  split
  · rfl
  · rfl
def Gm.blk (Γ : Gm) (scope : Scope) : Gm := { Γ with tp := false, lq := none, sc := relS scope Γ.sc, st := fun x => (match scope.names.lookup x with | some .cell => true | _ => false) || (match (relS scope Γ.sc).names.lookup x with | some .local => true | _ => false) }
theorem Gm.Ok.blk {X : Cx} (ok : Γ.Ok G X) {scope : Scope} (hk : scope.kind = .function) (s : Shared) (H : Hp) (C : Addr) (cl : List (Str × Addr)) (fp : List Addr) : (Γ.blk scope).Ok G (X.blk s H scope (compEnvC scope cl C X.env) fp) where
  prog := ok.prog
  w := ok.w
  K := ok.K
  mg := ok.mg
  base := ok.base
  N := ok.N
  nd := ok.nd
  sc := by
    show relS scope X.env.scope = relS scope Γ.sc
    rw [ok.sc]
  kind := hk
  calm := ok.calm
  room := ok.room
  un := ok.un
  pass := PassesOwn.never
  stk := fun h => nomatch h
  lm := fun q e => nomatch e
  fnl := fun x h => by
    have h' : ((match scope.names.lookup x with | some .cell => true | _ => false) || (match (relS scope Γ.sc).names.lookup x with | some .local => true | _ => false)) = true := h
    rw [Bool.or_eq_true] at h'
    rcases h' with h' | h'
    · left
      show (scope.names.lookup x == some .cell) = true
      split at h'
      · rename_i e; rw [e]; rfl
      · cases h'
    · right
      show (relS scope X.env.scope).names.lookup x = some .local
      rw [ok.sc]
      split at h'
      · assumption
      · cases h'
theorem Gm.Gr.blk (gr : Γ.Gr G) (scope : Scope) : (Γ.blk scope).Gr G := ⟨gr.fn, gr.bl, gr.cs, gr.ex, gr.is, gr.mkx, gr.mt, gr.ec, gr.isc, gr.fl, gr.tm⟩
def CTs (G : Gd) (Γ : Gm) (e : List Expr) (m : Sl → R Bool) : Prop := ∀ X, Γ.Ok G X → ∀ W, Takes X W → PTs X e (tT G W m)
def mYes : Sl → R Bool := fun _ => .ok true
theorem cts_nil : CTs G Γ [] mYes := fun X ok W tk => ⟨fun pins s σ H Q I h => pts_nil.run pins s σ H Q I (by
  obtain ⟨B, F0, L, F, A, R, h⟩ := h
  exact h F H (Grow.refl R.sf))⟩
theorem cts_one {c : Expr} {m : Sl → R Bool} (h : CT G Γ c m) : CTs G Γ [c] m := fun X ok W tk => pts_one (h X ok W tk)
def lcGo (tg : D → Sl → Option Sl) (tst : Sl → R Bool) (el : Sl → R D) (L : Sl) : List D → R (List D)
  | [] => .ok []
  | x :: xs => (lift (tg x L)).bind fun L' => (tst L').bind fun b => if b = true then (el L').bind fun d => (lcGo tg tst el L xs).bind fun ds => .ok (d :: ds) else lcGo tg tst el L xs
def mLc (it : Sl → R (List D)) (vs : List Nat) (tg : D → Sl → Option Sl) (tst : Sl → R Bool) (el : Sl → R D) : Sl → R O := fun L => (it L).bind fun ds =>
  if ds.length ≤ sizeLine ∧ okW L vs = true then (match lcGo tg tst el (wipeL L vs) ds with | .ok es => .ok (.ml (es.map .v)) | _ => .stuck) else .stuck
theorem rbind_ok {α β : Type} {r : R α} {k : α → R β} {b : β} (h : r.bind k = .ok b) : ∃ a, r = .ok a ∧ k a = .ok b := by
  cases r with
  | ok a => exact ⟨a, rfl, h⟩
  | exc c => cases h
  | stuck => cases h
theorem lift_ok {α : Type} {o : Option α} {a : α} (h : lift o = .ok a) : o = some a := by
  cases o with
  | none => cases h
  | some b => cases h; rfl
abbrev W0 : WX := fun _ _ _ _ => False
theorem lc_read {W : WX} {Q : VK} {it : Sl → R (List D)} {vs ws : List Nat} {tg : D → Sl → Option Sl} {tst : Sl → R Bool} {el : Sl → R D} (hsub : ∀ i ∈ ws, i ∈ vs) (h : tO G W (mLc it vs tg tst el) σ H Q) :
    tLc (tI G W it) (gD G ws tg) (tT G W0 tst) (tE G W0 el) vs σ H Q := by
  obtain ⟨B, F0, L, F, A, R, h⟩ := h
  refine ⟨B, F0, L, F, A, R, (pG.bind h).imp R fun ds F1 H1 s1 R1 g1 h1 J iJ Dd hD => ?_⟩
  split at h1
  · rename_i hsz
    cases hgo : lcGo tg tst el (wipeL L vs) ds with
    | exc c => rw [hgo] at h1; exact h1.elim
    | stuck => rw [hgo] at h1; exact h1.elim
    | ok es =>
      rw [hgo] at h1
      refine ⟨fun i m Hc => m = ds.length - i ∧ i ≤ ds.length ∧ ∃ Fi acc done rest, Grow G F1 H1 Fi Hc ∧ Fi Dd = none ∧ Hc Dd = some (.lst acc) ∧ RpA G.K G.mg Fi acc done ∧ done.length ≤ i ∧ lcGo tg tst el (wipeL L vs) (ds.drop i) = .ok rest ∧ done ++ rest = es, ⟨ds.length, rfl, Nat.zero_le _, F1, [], [], es, ⟨Kp.new hD, .refl _, ?_, fun _ e _ => e⟩, R1.sf.free hD, upd_same, .nil, Nat.le_refl _, hgo, rfl⟩, fun i m Hc hW => ?_⟩
      · exact fun a u e => by rw [upd_ne (ne_of_none (R1.sf _ _ e) hD)]; exact R1.sf _ _ e
      · obtain ⟨rfl, hi, Fi, acc, done, rest, g, fD, eD, rac, hdl, hgo2, hes⟩ := hW
        by_cases hlt : i < ds.length
        · refine .inr ⟨iJ.go i Fi Hc g.sF g.le hlt, fun H' => (fun i m Hc => m = ds.length - i ∧ i ≤ ds.length ∧ ∃ Fi acc done rest, Grow G F1 H1 Fi Hc ∧ Fi Dd = none ∧ Hc Dd = some (.lst acc) ∧ RpA G.K G.mg Fi acc done ∧ done.length ≤ i ∧ lcGo tg tst el (wipeL L vs) (ds.drop i) = .ok rest ∧ done ++ rest = es) (i + 1) (ds.length - (i + 1)) H', fun H' hn => ⟨_, by omega, hn⟩, fun x H' hy => ?_⟩
          obtain ⟨d, F2, ed, g2, rx⟩ := iJ.yl i Fi Hc x H' g.sF g.le hlt hy
          have gt := g.trans g2
          have f2D : F2 Dd = none := g2.hf Dd fD (nt_of eD fun _ z => nomatch z)
          have e2D : H' Dd = some (.lst acc) := g2.sH.at' _ _ eD
          obtain ⟨A', hA', Rw⟩ := (R1.gr gt).wipe vs hsz.2
          rw [List.drop_eq_getElem_cons hlt] at hgo2
          have ed' : ds[i] = d := by rw [List.getElem?_eq_getElem hlt] at ed; exact Option.some.inj ed
          rw [ed'] at hgo2
          unfold lcGo at hgo2
          obtain ⟨L', e1, hgo3⟩ := rbind_ok hgo2
          obtain ⟨b, e2, hgo4⟩ := rbind_ok hgo3
          refine ⟨B, F0, _, F2, A', d, Rw, rx, L', lift_ok e1, fun σ' A2 out s2 R2 => ⟨?_, ?_⟩⟩
          · rw [wipe_out out hsub, wipe_wipe]
          · refine ⟨B, F0, L', F2, A2, R2, ?_⟩
            rw [e2]
            intro F3 H3 g3
            have R3 := R2.gr g3
            have f3D : F3 Dd = none := g3.hf Dd f2D (nt_of e2D fun _ z => nomatch z)
            have e3D : H3 Dd = some (.lst acc) := g3.sH.at' _ _ e2D
            cases b with
            | true =>
              rw [if_pos rfl] at hgo4
              obtain ⟨y, e4, hgo5⟩ := rbind_ok hgo4
              obtain ⟨rest', e5, e6⟩ := rbind_ok hgo5
              cases e6
              refine iteT ⟨B, F0, L', F3, A2, R3, ?_⟩
              rw [e4]
              intro F4 H4 g4 v rv
              have f4D : F4 Dd = none := g4.hf Dd f3D (nt_of e3D fun _ z => nomatch z)
              have e4D : H4 Dd = some (.lst acc) := g4.sH.at' _ _ e3D
              refine ⟨acc, e4D, ?_, rfl, hlt, F4, acc ++ [v], done ++ [y], rest', ⟨?_, (gt.sF.trans g3.sF).trans g4.sF, ?_, ?_⟩, f4D, upd_same, (RpA.mono (g2.sF.trans (g3.sF.trans g4.sF)) rac).append (.cons rv .nil), by rw [List.length_append]; show done.length + 1 ≤ i + 1; omega, e5, by rw [← hes]; simp⟩
              · rw [rac.length]; omega
              · exact ((gt.sH.trans g3.sH).trans g4.sH).upd hD (mut_at e4D trivial)
              · exact fun a u e => by rw [upd_ne (ne_of_none e f4D)]; exact g4.le _ _ e
              · exact fun a z n => ((gt.trans g3).trans g4).hf a z n
            | false =>
              rw [if_neg Bool.false_ne_true] at hgo4
              exact iteF ⟨rfl, hlt, F3, acc, done, rest, gt.trans g3, f3D, e3D, RpA.mono (g2.sF.trans g3.sF) rac, by omega, hgo4, hes⟩
        · have hn : ds.length ≤ i := by omega
          refine .inl ⟨iJ.st i Fi Hc g.sF g.le hn, ?_⟩
          rw [List.drop_eq_nil_of_le hn] at hgo2
          cases hgo2
          rw [List.append_nil] at hes
          subst hes
          exact h1 Fi Hc g (.ref Dd) [Dd] (.ml eD rac.ow) (by simp) fun a m => by rw [List.mem_singleton.mp m]; exact ⟨fD, g1.sH.free hD⟩
  · exact h1.elim
def noSet : Expr → Bool | .Set _ _ _ => false | _ => true
theorem noSet_of {e : Expr} (h : noSet e = true) (env : Env) (x : Value) : foldedSetIterable e env x = pure x := by
  cases e <;> first | rfl | (cases h; done)
theorem co_lc {elt tg iter : Expr} {ifs : List Expr} {scope : Scope} {own : List (Str × Nat)} {ws : List Nat} {pos : Pos} {it : Sl → R (List D)} {gm : D → Sl → Option Sl} {tst : Sl → R Bool} {el : Sl → R D}
    (hi : CI G Γ tg iter it) (hb : blkC Γ.N Γ.sc scope own = true) (hsub : ∀ i ∈ ws, i ∈ own.map (·.2)) (hg : CG G (Γ.blk scope) tg ws gm) (ht : CTs G (Γ.blk scope) ifs tst) (he : CE G (Γ.blk scope) elt el) (hs : (noSet iter && Γ.cm) = true) :
    CO G Γ (.ListComp elt [⟨tg, iter, ifs, 0⟩] scope pos) (mLc it (own.map (·.2)) gm tst el) :=
  fun X ok W tk => PE.imp (pe_lc (ok.calm (by rw [Bool.and_eq_true] at hs; exact hs.2)) (by rw [ok.N]; exact ok.nd) (hi X ok W tk) (by rw [ok.N, ok.sc]; exact blkOk_by hb) (fun s H C cl fp => hg _ (ok.blk (blkOk_by hb).kind s H C cl fp)) (fun s H C cl fp => ht _ (ok.blk (blkOk_by hb).kind s H C cl fp) W0 takes0)
    (fun s H C cl fp => he _ (ok.blk (blkOk_by hb).kind s H C cl fp) W0 takes0) (noSet_of (by rw [Bool.and_eq_true] at hs; exact hs.1) _)) fun σ H Q h => lc_read hsub h
end
end Eng
end
section
set_option Elab.async false
set_option linter.all false
set_option maxRecDepth 100000
set_option maxHeartbeats 4000000
namespace Eng
open PySem PySem.Spec PyProof.Rows L2
section
variable {G : Gd} {Γ : Gm} {W : WX} {B : Bd} {F0 F H : Hp} {L : Sl} {A : List Addr} {σ : L2.St} {D' : Ends}
theorem Rel.mono {F F' : Hp} (s : Same F F') (h : Rel G B F0 F' L σ H) : Rel G B F0 F L σ H := by
  obtain ⟨F2, A2, s2, R2⟩ := h
  exact ⟨F2, A2, s.trans s2, R2⟩
theorem pS.mono {F F' : Hp} {r : RS} (s : Same F F') (h : pS G W B F0 F r D') : pS G W B F0 F' r D' := by
  cases r with
  | next L => exact fun σ' H' q => h σ' H' (q.mono s)
  | brk L => exact fun σ' H' q => h σ' H' (q.mono s)
  | cont L => exact fun σ' H' q => h σ' H' (q.mono s)
  | ret o L => exact fun v H' ⟨F2, A2, C, σ', s2, q⟩ => h v H' ⟨F2, A2, C, σ', s.trans s2, q⟩
  | exc c L => obtain ⟨C, e, h⟩ := h; exact ⟨C, e, fun σ' H' q => h σ' H' (q.mono s)⟩
  | stuck => exact h
def sBind {α : Type} (m : Sl → R α) (k : α → Sl → RS) : Sl → RS := fun L => match m L with | .ok a => k a L | .exc c => .exc c L | .stuck => .stuck
theorem pS.first {α : Type} {m : Sl → R α} {k : α → Sl → RS} (Rr : Rl G B F0 L F A σ H) (h : pS G W B F0 F (sBind m k L) D') : pG G W σ F H (m L) fun a F' _ => pS G W B F0 F' (k a L) D' := by
  unfold sBind at h
  cases e : m L with
  | ok a => rw [e] at h; exact fun F' H' g => pS.mono g.sF h
  | exc c => rw [e] at h; obtain ⟨C, e, h⟩ := h; exact ⟨C, e, fun F' H' g => h σ H' ⟨F', A, g.sF, Rr.gr g⟩⟩
  | stuck => rw [e] at h; exact h
def sNext : Sl → RS := .next
def sSeq (a b : Sl → RS) : Sl → RS := fun L => match a L with | .next L' => b L' | r => r
theorem css_nil : CSs G Γ [] sNext := fun X ok W tk => PSs.imp pss_nil fun D σ H h => by
  obtain ⟨B, F0, L, F, A, R, h⟩ := h
  exact h σ H ⟨F, A, .refl _, R⟩
theorem css_cons {s : Stmt} {r : List Stmt} {a b : Sl → RS} (h1 : CS G Γ s a) (h2 : CSs G Γ r b) : CSs G Γ (s :: r) (sSeq a b) := by
  refine fun X ok W tk => PSs.imp (pss_cons (h1 X ok W tk) (h2 X ok W tk)) fun D σ H h => ?_
  obtain ⟨B, F0, L, F, A, R, h⟩ := h
  refine ⟨B, F0, L, F, A, R, ?_⟩
  unfold sSeq at h
  cases e : a L with
  | next L' =>
    rw [e] at h
    rintro σ' H' ⟨F', A', s', R'⟩
    exact ⟨B, F0, L', F', A', R', pS.mono s' h⟩
  | _ => rw [e] at h; exact h
theorem css_one {s : Stmt} {a : Sl → RS} (h1 : CS G Γ s a) : CSs G Γ [s] a := fun X ok W tk => pss_one (h1 X ok W tk)
def sIf (c : Sl → R Bool) (a b : Sl → RS) : Sl → RS := sBind c fun x L => if x = true then a L else b L
theorem cs_if {c : Expr} {x y : List Stmt} {mc : Sl → R Bool} {a b : Sl → RS} {pos} (hc : CT G Γ c mc) (ha : CSs G Γ x a) (hb : CSs G Γ y b) : CS G Γ (.If c x y pos) (sIf mc a b) := by
  refine fun X ok W tk => PS.imp (ps_if (hc X ok W tk) (ha X ok W tk) (hb X ok W tk)) fun D σ H h => ?_
  obtain ⟨B, F0, L, F, A, R, h⟩ := h
  refine ⟨B, F0, L, F, A, R, (pS.first R h).imp R fun k F1 H1 s1 R1 g1 h1 => ?_⟩
  cases k with
  | true => exact iteT ⟨B, F0, L, F1, A, R1, h1⟩
  | false => exact iteF ⟨B, F0, L, F1, A, R1, h1⟩
theorem ret_v {v : V} {d : D} (R : Rl G B F0 L F A σ H) (r : Rp G.K G.mg F v d) : RetS G B F0 F (.v d) L v H :=
  ⟨F, A, [], σ, .refl _, R, .v r, List.nodup_nil, fun _ m => nomatch m⟩
def sRet (m : Sl → R D) : Sl → RS := sBind m fun d L => .ret (.v d) L
theorem cs_ret {e : Expr} {m : Sl → R D} {pos} (he : CE G Γ e m) : CS G Γ (.Return (some e) pos) (sRet m) := by
  refine fun X ok W tk => PS.imp (ps_ret (he X ok W tk)) fun D σ H h => ?_
  obtain ⟨B, F0, L, F, A, R, h⟩ := h
  exact ⟨B, F0, L, F, A, R, (pS.first R h).imp R fun k F1 H1 s1 R1 g1 h1 v rv => h1 v H1 (ret_v R1 rv)⟩
def sRetN : Sl → RS := fun L => .ret (.v .non) L
def sRetO (m : Sl → R O) : Sl → RS := sBind m fun o L => .ret o L
theorem cs_retO {e : Expr} {m : Sl → R O} {pos} (he : CO G Γ e m) : CS G Γ (.Return (some e) pos) (sRetO m) := by
  refine fun X ok W tk => PS.imp (ps_ret (he X ok W tk)) fun D σ H h => ?_
  obtain ⟨B, F0, L, F, A, R, h⟩ := h
  exact ⟨B, F0, L, F, A, R, (pS.first R h).imp R fun k F1 H1 s1 R1 g1 h1 v C ow nC fC => h1 v H1 ⟨F1, A, C, σ, .refl _, R1, ow, nC, fun a m => ⟨(fC a m).1, R.sb.free (fC a m).2, fun m' => by obtain ⟨u, e⟩ := R.os.tracked a m'; rw [(fC a m).2] at e; cases e⟩⟩⟩
def sRetX (i : Nat) : Sl → RS := fun L => match L[i]? with | some (some o) => if okSet L i = true then .ret o (L.set i none) else .stuck | _ => .stuck
theorem cs_retX {i : Nat} {x : Str} {p pos : Pos} (hN : Γ.N[i]? = some x) (hv : visB Γ.sc x = true) (hd : (x == ("__debug__" : Str)) = false) (hcd : (x == ("__classdict__" : Str)) = false) : CS G Γ (.Return (some (.Name x p)) pos) (sRetX i) := by
  refine fun X ok W tk => PS.imp (ps_ret (pe_var (i := i) (by rw [ok.N]; exact hN) (by rw [ok.sc]; exact vis_of hv) hd hcd)) fun D σ H h => ?_
  obtain ⟨B, F0, L, F, A, R, h⟩ := h
  unfold sRetX at h
  split at h
  · rename_i o e
    split at h
    · rename_i hok
      obtain ⟨v, A1, Ai, A2, h1, h2, h3, q0⟩ := R.os.take e
      refine ⟨v, h1, ?_⟩
      have nd := R.nd
      rw [h3] at nd
      have n1 := List.nodup_append.mp nd
      have n2 := List.nodup_append.mp n1.1
      have sub : ∀ a ∈ A1 ++ A2, a ∈ A := fun a m => by rw [h3]; simp at m ⊢; rcases m with m | m <;> simp [m]
      refine h v H ⟨F, A1 ++ A2, Ai, σ, .refl _, ⟨q0, ?_, R.sf, R.f0, R.sb, R.fb, fun a m => R.fa a (sub a m), ?_⟩, h2, n2.2.1, fun a m => ⟨(R.fa a (by rw [h3]; simp [m])).1, (R.fa a (by rw [h3]; simp [m])).2, fun m' => ?_⟩⟩
      · exact List.nodup_append.mpr ⟨n2.1, n1.2.1, fun a ha b hb => n1.2.2 a (List.mem_append_left _ ha) b hb⟩
      · have := pn_set (x := none) (y := some v) (okSet_of hok).2 R.pn
        have e2 : σ.set i (some v) = σ := by
          obtain ⟨hi, e⟩ := List.getElem?_eq_some_iff.mp h1
          rw [← e]; exact List.set_getElem_self hi
        rw [e2] at this; exact this
      · rcases List.mem_append.mp m' with m' | m'
        · exact n2.2.2 a m' a m rfl
        · exact n1.2.2 a (List.mem_append_right _ m) a m' rfl
    · exact h.elim
  · exact h.elim
def sDrop (m : Sl → R D) : Sl → RS := sBind m fun _ L => .next L
def noComp : Expr → Bool | .ListComp _ _ _ _ => false | .SetComp _ _ _ _ => false | .DictComp _ _ _ _ _ => false | _ => true
theorem sw_none {e : Expr} (h : noComp e = true) (t : Option Expr) (l : Nat) (env : Env) : swapsWith e t l env = pure false := by
  cases e <;> first | rfl | (cases h; done)
theorem cs_expr {e : Expr} {m : Sl → R D} {pos} (hn : noComp e = true) (he : CE G Γ e m) : CS G Γ (.Expr e pos) (sDrop m) := by
  refine fun X ok W tk => PS.imp (ps_expr (he X ok W tk) (sw_none hn _ _ _)) fun D σ H h => ?_
  obtain ⟨B, F0, L, F, A, R, h⟩ := h
  exact ⟨B, F0, L, F, A, R, (pS.first R h).imp R fun k F1 H1 s1 R1 g1 h1 v rv => h1 σ H1 ⟨F1, A, .refl _, R1⟩⟩
def sSet (i : Nat) (m : Sl → R D) : Sl → RS := sBind m fun d L => if okSet L i = true then .next (L.set i (some (.v d))) else .stuck
def sSetO (i : Nat) (m : Sl → R O) : Sl → RS := sBind m fun o L => if okSet L i = true then .next (L.set i (some o)) else .stuck
theorem set_endV {i : Nat} {m : Sl → R D} (h : tS G W (sSet i m) D' σ H) : tE G W m σ H fun x H1 => D'.nx (σ.set i (some x)) H1 := by
  obtain ⟨B, F0, L, F, A, R, h⟩ := h
  refine ⟨B, F0, L, F, A, R, (pS.first R h).imp R fun d F1 H1 s1 R1 g1 h1 v rv => ?_⟩
  split at h1
  · rename_i hi
    obtain ⟨A', R'⟩ := R1.set (okSet_of hi).1 (okSet_of hi).2 rv
    exact h1 _ _ ⟨F1, A', .refl _, R'⟩
  · exact h1.elim
theorem set_endO {i : Nat} {m : Sl → R O} (h : tS G W (sSetO i m) D' σ H) : tO G W m σ H fun x H1 => D'.nx (σ.set i (some x)) H1 := by
  obtain ⟨B, F0, L, F, A, R, h⟩ := h
  refine ⟨B, F0, L, F, A, R, (pS.first R h).imp R fun d F1 H1 s1 R1 g1 h1 v C ow nC fC => ?_⟩
  split at h1
  · rename_i hi
    obtain ⟨A', R'⟩ := R1.setO (okSet_of hi).1 (okSet_of hi).2 ow nC (fun a m m' => by obtain ⟨u, e⟩ := R.os.tracked a m'; rw [(fC a m).2] at e; cases e) (fun a m => ⟨(fC a m).1, R.sb.free (fC a m).2⟩)
    exact h1 _ _ ⟨F1, A', .refl _, R'⟩
  · exact h1.elim
theorem tO_of_fr {m : Sl → R O} {Q : VK} (h : tE G W (mFr m) σ H Q) : tO G W m σ H Q := by
  obtain ⟨B, F0, L, F, A, R, h⟩ := h
  exact ⟨B, F0, L, F, A, R, fr_end R.sf h⟩
def swapB (sc : Scope) (x : Str) (pos' : Pos) : Expr → Bool
  | .ListComp _ _ s p => (match sc.names.lookup x with | some .local => true | _ => false) && (pos'.line == p.line) && !(s.names.any fun (n, k) => n == x && (k == .local || k == .cell))
  | _ => false
def setOk : Expr → Bool | .SetComp _ _ _ _ => false | .DictComp _ _ _ _ _ => false | _ => true
theorem sw_eq {X : Cx} (ok : Γ.Ok G X) {e : Expr} {x : Str} {p : Pos} {l : Nat} (he : setOk e = true) (hb : swapB Γ.sc x p e = false) : swapsWith e (some (.Name x p)) l X.env = pure false := by
  cases e with
  | ListComp elt gs s pos =>
    have hbk : X.env.blockKind = .function := by unfold Env.blockKind; rw [ok.kind]; rfl
    unfold swapB at hb
    unfold swapsWith
    have hk : (X.env.kindOf x == some .local) = (match Γ.sc.names.lookup x with | some .local => true | _ => false) := by
      unfold Env.kindOf
      rw [ok.sc]
      split
      · rename_i e; rw [e]; rfl
      · rename_i h
        cases e : Γ.sc.names.lookup x with
        | none => rfl
        | some k => cases k <;> first | rfl | exact absurd e h
    simp only [hbk, hk, Expr.pos]
    show pure _ = pure false
    congr 1
  | SetComp => cases he
  | DictComp => cases he
  | _ => rfl
theorem cs_set {i : Nat} {x : Str} {e : Expr} {m : Sl → R D} {p pos : Pos} (hN : Γ.N[i]? = some x) (hx : locB Γ.sc x = true) (hf : Γ.st x = true) (he : setOk e = true) (hb : swapB Γ.sc x p e = false) (h : CE G Γ e m) : CS G Γ (.Assign [.Name x p] e pos) (sSet i m) :=
  fun X ok W tk => PS.imp (ps_set (i := i) (by rw [ok.N]; exact ok.nd) (by rw [ok.N]; exact hN) (by rw [ok.sc]; exact loc_of hx) (h X ok W tk) (sw_eq ok he hb) (ok.fnl x hf)) fun D σ H h => set_endV h
theorem cs_setO {i : Nat} {x : Str} {e : Expr} {m : Sl → R O} {p pos : Pos} (hN : Γ.N[i]? = some x) (hx : locB Γ.sc x = true) (hf : Γ.st x = true) (he : setOk e = true) (hb : swapB Γ.sc x p e = false) (h : CO G Γ e m) : CS G Γ (.Assign [.Name x p] e pos) (sSetO i m) :=
  fun X ok W tk => PS.imp (ps_set (i := i) (by rw [ok.N]; exact ok.nd) (by rw [ok.N]; exact hN) (by rw [ok.sc]; exact loc_of hx) (h X ok W tk) (sw_eq ok he hb) (ok.fnl x hf)) fun D σ H h => set_endO h
section
variable {elt tg iter : Expr} {ifs : List Expr} {scope : Scope} {own : List (Str × Nat)} {ws : List Nat} {p pos spos : Pos} {it : Sl → R (List D)} {gm : D → Sl → Option Sl} {tst : Sl → R Bool} {el : Sl → R D} {i : Nat} {y : Str}
theorem lookLocal {sc : Scope} (h : (match sc.names.lookup y with | some .local => true | _ => false) = true) : sc.names.lookup y = some .local := by
  split at h
  · assumption
  · cases h
theorem ps_lc (hN : Γ.N[i]? = some y) (hsw : swapB Γ.sc y p (.ListComp elt [⟨tg, iter, ifs, 0⟩] scope pos) = true)
    (hi : CI G Γ tg iter it) (hb : blkC Γ.N Γ.sc scope own = true) (hg : CG G (Γ.blk scope) tg ws gm) (ht : CTs G (Γ.blk scope) ifs tst) (he : CE G (Γ.blk scope) elt el) (hs : (noSet iter && Γ.cm) = true) {X : Cx} (ok : Γ.Ok G X) {W : WX} (tk : Takes X W) :
    PS X (.Assign [.Name y p] (.ListComp elt [⟨tg, iter, ifs, 0⟩] scope pos) spos) (tAsg (tLc (tI G W it) (gD G ws gm) (tT G W0 tst) (tE G W0 el) (own.map (·.2))) (gName i)) := by
  unfold swapB at hsw
  simp only [Bool.and_eq_true, Bool.not_eq_true'] at hsw
  obtain ⟨⟨h1, h2⟩, h3⟩ := hsw
  have hl := lookLocal h1
  exact ps_setLc (ok.calm (by rw [Bool.and_eq_true] at hs; exact hs.2)) (by rw [ok.N]; exact ok.nd) (by rw [ok.N]; exact hN) (by rw [ok.sc]; exact hl) (sw_true ok.kind (by rw [ok.sc]; exact hl) h2 h3) (hi X ok W tk) (by rw [ok.N, ok.sc]; exact blkOk_by hb) (fun s H C cl fp => hg _ (ok.blk (blkOk_by hb).kind s H C cl fp)) (fun s H C cl fp => ht _ (ok.blk (blkOk_by hb).kind s H C cl fp) W0 takes0)
    (fun s H C cl fp => he _ (ok.blk (blkOk_by hb).kind s H C cl fp) W0 takes0) (noSet_of (by rw [Bool.and_eq_true] at hs; exact hs.1) _)
theorem cs_setLcV (hN : Γ.N[i]? = some y) (hsw : swapB Γ.sc y p (.ListComp elt [⟨tg, iter, ifs, 0⟩] scope pos) = true)
    (hi : CI G Γ tg iter it) (hb : blkC Γ.N Γ.sc scope own = true) (hsub : ∀ i ∈ ws, i ∈ own.map (·.2)) (hg : CG G (Γ.blk scope) tg ws gm) (ht : CTs G (Γ.blk scope) ifs tst) (he : CE G (Γ.blk scope) elt el) (hs : (noSet iter && Γ.cm) = true) :
    CS G Γ (.Assign [.Name y p] (.ListComp elt [⟨tg, iter, ifs, 0⟩] scope pos) spos) (sSet i (mFr (mLc it (own.map (·.2)) gm tst el))) :=
  fun X ok W tk => PS.imp (ps_lc hN hsw hi hb hg ht he hs ok tk) fun D σ H h => lc_read hsub (tO_of_fr (set_endV h))
end
def sTg (g : D → Sl → Option Sl) (m : Sl → R D) : Sl → RS := sBind m fun d L => match g d L with | some L' => .next L' | none => .stuck
def forGo (tg : D → Sl → Option Sl) (body : Sl → RS) : Sl → List D → RS
  | L, [] => .next L
  | L, x :: xs => match tg x L with
    | none => .stuck
    | some L1 => match body L1 with
      | .next L2 => forGo tg body L2 xs
      | .cont L2 => forGo tg body L2 xs
      | .brk L2 => .next L2
      | .ret o L2 => .ret o L2
      | .exc c L2 => .exc c L2
      | .stuck => .stuck
def sFor (it : Sl → R (List D)) (tg : D → Sl → Option Sl) (body : Sl → RS) : Sl → RS := sBind it fun ds L => forGo tg body L ds
theorem cs_for {tg iter : Expr} {b : List Stmt} {ws : List Nat} {it : Sl → R (List D)} {g : D → Sl → Option Sl} {body : Sl → RS} {pos : Pos} (hs : (noSet iter && Γ.cm) = true) (hi : CI G Γ tg iter it) (hg : CG G Γ tg ws g) (hb : CSs G Γ b body) : CS G Γ (.For tg iter b [] pos) (sFor it g body) := by
  refine fun X ok W tk => PS.imp (ps_for ok.pass (ok.calm (by rw [Bool.and_eq_true] at hs; exact hs.2)) (hi X ok W tk) (hg X ok) (hb X ok W tk) (noSet_of (by rw [Bool.and_eq_true] at hs; exact hs.1) _)) fun D σ H h => ?_
  obtain ⟨B, F0, L, F, A, R, h⟩ := h
  refine ⟨B, F0, L, F, A, R, (pS.first R h).imp R fun ds F1 H1 s1 R1 g1 h1 J iJ => ?_⟩
  refine ⟨fun i m σ H => m = ds.length - i ∧ i ≤ ds.length ∧ ∃ Li Fi Ai, Same F1 Fi ∧ Rl G B F0 Li Fi Ai σ H ∧ pS G W B F0 Fi (forGo g body Li (ds.drop i)) D, ⟨_, rfl, Nat.zero_le _, L, F1, A, .refl _, R1, h1⟩, fun i m σi Hi hW => ?_⟩
  obtain ⟨rfl, hi, Li, Fi, Ai, si, Ri, hp⟩ := hW
  by_cases hlt : i < ds.length
  · rw [List.drop_eq_getElem_cons hlt] at hp
    unfold forGo at hp
    refine .inr ⟨iJ.go i Fi Hi si Ri.sf hlt, fun σ' H' => i + 1 ≤ ds.length ∧ ∃ Lj Fj Aj, Same F1 Fj ∧ Rl G B F0 Lj Fj Aj σ' H' ∧ pS G W B F0 Fj (forGo g body Lj (ds.drop (i + 1))) D, fun σ' H' hn => ⟨ds.length - (i + 1), by omega, rfl, hn⟩, fun x H' hy => ?_⟩
    obtain ⟨d, F2, ed, g2, rx⟩ := iJ.yl i Fi Hi x H' si Ri.sf hlt hy
    have ed' : ds[i] = d := by rw [List.getElem?_eq_getElem hlt] at ed; exact Option.some.inj ed
    rw [ed'] at hp
    cases e : g d Li with
    | none => rw [e] at hp; exact hp.elim
    | some L1 =>
      rw [e] at hp
      refine ⟨B, F0, Li, F2, Ai, d, Ri.gr g2, rx, L1, e, fun σ2 A2 out s2 R2 => ⟨B, F0, L1, F2, A2, R2, ?_⟩⟩
      have hp := pS.mono g2.sF hp
      dsimp only at hp
      cases e2 : body L1 with
      | next L2 =>
        rw [e2] at hp
        rintro σ3 H3 ⟨F3, A3, s3, R3⟩
        exact ⟨hlt, L2, F3, A3, (si.trans g2.sF).trans s3, R3, pS.mono s3 hp⟩
      | cont L2 =>
        rw [e2] at hp
        rintro σ3 H3 ⟨F3, A3, s3, R3⟩
        exact ⟨hlt, L2, F3, A3, (si.trans g2.sF).trans s3, R3, pS.mono s3 hp⟩
      | brk L2 => rw [e2] at hp; exact hp
      | ret o L2 => rw [e2] at hp; exact hp
      | exc c L2 => rw [e2] at hp; exact hp
      | stuck => rw [e2] at hp; exact hp.elim
  · have hn : ds.length ≤ i := by omega
    rw [List.drop_eq_nil_of_le hn] at hp
    exact .inl ⟨iJ.st i Fi Hi si Ri.sf hn, hp σi Hi ⟨Fi, Ai, .refl _, Ri⟩⟩
def sRaise (c : Str) : Sl → RS := fun L => .exc c L
theorem cs_raise (gr : Γ.Gr G) {c m : Str} {j : Nat} {p p2 p3 pos : Pos} (hcm : Γ.cm = true) (hm : c ∈ Γ.E) (hg : glB Γ.sc c = true) (hdb : (c == ("__debug__" : Str)) = false) : CS G Γ (.Raise (some (.Call (.Name c p) [.Constant (.str m) j p2] [] p3)) none pos) (sRaise c) := by
  obtain ⟨C, e1, e2, e3, e4, e5⟩ := gr.ex c hm
  refine fun X ok W tk => PS.imp (ps_raise (ok.calm hcm) tk (pmk_own PySem.F.excBase_ValueError (by rw [ok.K]; exact e2) (by rw [ok.mg]; exact e1) (by rw [ok.K]; exact e3) (raises_own (by rw [ok.K]; exact e4) (by rw [ok.K]; exact e5)) (gl_of ok.sc hg) hdb)) fun D σ H h => ?_
  obtain ⟨B, F0, L, F, A, R, C', eC, h⟩ := h
  rw [e1] at eC; cases eC
  exact h σ H ⟨F, A, .refl _, R⟩
end
end Eng
end
section
set_option Elab.async false
set_option linter.all false
set_option maxRecDepth 100000
set_option maxHeartbeats 4000000
namespace Eng
open PySem PySem.Spec PyProof.Rows L2
mutual
def D.pl (i : Bool) : D → Bool
  | .non => true
  | .bl _ => true
  | .int _ => true
  | .str _ => true
  | .lst _ => false
  | .tup xs => D.plA i xs
  | .ins _ fs => i && D.plF i fs
  | .dk _ => false
  | .dt _ => false
  | .exn _ _ => false
  | .opq => true
  | .xt _ => false
def D.plA (i : Bool) : List D → Bool
  | [] => true
  | d :: ds => d.pl i && D.plA i ds
def D.plF (i : Bool) : List (Str × D) → Bool
  | [] => true
  | (_, d) :: ds => d.pl i && D.plF i ds
end
mutual
def O.pl (i : Bool) : O → Bool
  | .v d => d.pl i
  | .ml xs => O.plA i xs
  | .mt xs => O.plA i xs
  | .mk kvs => O.plK i kvs
  | .mq kvs => O.plT i kvs
  | .mi _ _ fs => O.plF i fs
  | .pin o => o.pl i
  | .me _ kvs => O.plK i kvs
def O.plA (i : Bool) : List O → Bool
  | [] => true
  | o :: os => o.pl i && O.plA i os
def O.plK (i : Bool) : List (Key × O) → Bool
  | [] => true
  | (_, o) :: os => o.pl i && O.plK i os
def O.plT (i : Bool) : List (List Key × O) → Bool
  | [] => true
  | (_, o) :: os => o.pl i && O.plT i os
def O.plF (i : Bool) : List (Str × O) → Bool
  | [] => true
  | (_, o) :: os => o.pl i && O.plF i os
end
mutual
def O.noI : O → Bool
  | .v _ => true
  | .ml xs => O.noIA xs
  | .mt xs => O.noIA xs
  | .mk kvs => O.noIK kvs
  | .mq kvs => O.noIT kvs
  | .mi _ _ _ => false
  | .pin o => o.noI
  | .me _ kvs => O.noIK kvs
def O.noIA : List O → Bool
  | [] => true
  | o :: os => o.noI && O.noIA os
def O.noIK : List (Key × O) → Bool
  | [] => true
  | (_, o) :: os => o.noI && O.noIK os
def O.noIT : List (List Key × O) → Bool
  | [] => true
  | (_, o) :: os => o.noI && O.noIT os
end
def noIS : Sl → Bool
  | [] => true
  | none :: L => noIS L
  | some o :: L => o.noI && noIS L
theorem and2 {a b : Bool} (h : (a && b) = true) : a = true ∧ b = true := by cases a <;> cases b <;> simp_all
section
variable {tg : Tg} {K : PySem.W.Frag} {mg : Str → Option Value} {F F' H : Hp} {i : Bool}
structure KpI (i : Bool) (F F' : Hp) : Prop where
  tup : ∀ a xs, F a = some (.tup xs) → F' a = some (.tup xs)
  ins : i = true → ∀ a C dx fs, F a = some (.ins C dx fs) → F' a = some (.ins C dx fs)
mutual
theorem Rp.un (h : KpI i F F') : ∀ {v : V} {d : D}, d.pl i = true → Rp K mg F v d → Rp K mg F' v d
  | _, _, _, .non => .non
  | _, _, _, .bl b => .bl b
  | _, _, _, .int b => .int b
  | _, _, _, .str b => .str b
  | _, _, e, .lst _ _ => by unfold D.pl at e; cases e
  | _, _, e, .tup hs r => .tup (h.tup _ _ hs) (RpA.un h (by unfold D.pl at e; exact e) r)
  | _, _, e, .ins hs em r => by
    unfold D.pl at e
    exact .ins (h.ins (and2 e).1 _ _ _ _ hs) em (RpF.un h (and2 e).2 r)
  | _, _, e, .dk _ _ => by unfold D.pl at e; cases e
  | _, _, e, .dt _ _ => by unfold D.pl at e; cases e
  | _, _, e, .exn _ _ _ _ => by unfold D.pl at e; cases e
  | _, _, _, .opq v => .opq v
  | _, _, e, .xt _ _ _ => by unfold D.pl at e; cases e
theorem RpA.un (h : KpI i F F') : ∀ {v : List V} {d : List D}, D.plA i d = true → RpA K mg F v d → RpA K mg F' v d
  | _, _, _, .nil => .nil
  | _, _, e, .cons r t => by
    unfold D.plA at e
    exact .cons (Rp.un h (and2 e).1 r) (RpA.un h (and2 e).2 t)
theorem RpF.un (h : KpI i F F') : ∀ {v : List (Str × V)} {d : List (Str × D)}, D.plF i d = true → RpF K mg F v d → RpF K mg F' v d
  | _, _, _, .nil => .nil
  | _, _, e, .cons r t => by
    unfold D.plF at e
    exact .cons (Rp.un h (and2 e).1 r) (RpF.un h (and2 e).2 t)
end
mutual
theorem Ow.un (h : KpI i F F') : ∀ {v : V} {o : O} {A : List Addr}, o.pl i = true → Ow tg K mg F H v o A → Ow tg K mg F' H v o A
  | _, _, _, e, .v r => .v (Rp.un h (by unfold O.pl at e; exact e) r)
  | _, _, _, e, .ml hs r => .ml hs (OwA.un h (by unfold O.pl at e; exact e) r)
  | _, _, _, e, .mt hs r => .mt (h.tup _ _ hs) (OwA.un h (by unfold O.pl at e; exact e) r)
  | _, _, _, e, .mk hs r => .mk hs (OwK.un h (by unfold O.pl at e; exact e) r)
  | _, _, _, e, .mq hs r => .mq hs (OwT.un h (by unfold O.pl at e; exact e) r)
  | _, _, _, e, .mi hs em r => .mi hs em (OwF.un h (by unfold O.pl at e; exact e) r)
  | _, _, _, e, .pin r => .pin (Ow.un h (by unfold O.pl at e; exact e) r)
  | _, _, _, e, .me e1 hs r => .me e1 hs (OwK.un h (by unfold O.pl at e; exact e) r)
theorem OwA.un (h : KpI i F F') : ∀ {v : List V} {o : List O} {A : List Addr}, O.plA i o = true → OwA tg K mg F H v o A → OwA tg K mg F' H v o A
  | _, _, _, _, .nil => .nil
  | _, _, _, e, .cons r t => by
    unfold O.plA at e
    exact .cons (Ow.un h (and2 e).1 r) (OwA.un h (and2 e).2 t)
theorem OwK.un (h : KpI i F F') : ∀ {v : List (Key × V)} {o : List (Key × O)} {A : List Addr}, O.plK i o = true → OwK tg K mg F H v o A → OwK tg K mg F' H v o A
  | _, _, _, _, .nil => .nil
  | _, _, _, e, .cons r t => by
    unfold O.plK at e
    exact .cons (Ow.un h (and2 e).1 r) (OwK.un h (and2 e).2 t)
theorem OwT.un (h : KpI i F F') : ∀ {v : List (List Key × V)} {o : List (List Key × O)} {A : List Addr}, O.plT i o = true → OwT tg K mg F H v o A → OwT tg K mg F' H v o A
  | _, _, _, _, .nil => .nil
  | _, _, _, e, .cons r t => by
    unfold O.plT at e
    exact .cons (Ow.un h (and2 e).1 r) (OwT.un h (and2 e).2 t)
theorem OwF.un (h : KpI i F F') : ∀ {v : List (Str × V)} {o : List (Str × O)} {A : List Addr}, O.plF i o = true → OwF tg K mg F H v o A → OwF tg K mg F' H v o A
  | _, _, _, _, .nil => .nil
  | _, _, _, e, .cons r t => by
    unfold O.plF at e
    exact .cons (Ow.un h (and2 e).1 r) (OwF.un h (and2 e).2 t)
end
def MutL : HO → Prop | .lst _ => True | .dK _ => True | .dT _ => True | .ext _ => True | _ => False
theorem mem_cons_or {a b : Addr} {A : List Addr} {P : Addr → Prop} (h : P b) (t : ∀ x ∈ A, P x) : a ∈ b :: A → P a := fun m => by
  rcases List.mem_cons.mp m with rfl | m
  · exact h
  · exact t a m
theorem mem_app_or {a : Addr} {A B : List Addr} {P : Addr → Prop} (h : ∀ x ∈ A, P x) (t : ∀ x ∈ B, P x) : a ∈ A ++ B → P a := fun m => (List.mem_append.mp m).elim (h a) (t a)
mutual
theorem Ow.mutL : ∀ {v : V} {o : O} {A : List Addr}, o.noI = true → Ow tg K mg F H v o A → ∀ a ∈ A, ∃ u, H a = Option.some u ∧ MutL u
  | _, _, _, _, .v r => fun _ m => nomatch m
  | _, _, _, e, .ml hs r => fun a => mem_cons_or ⟨_, hs, trivial⟩ (OwA.mutL (by unfold O.noI at e; exact e) r)
  | _, _, _, e, .mt hs r => OwA.mutL (by unfold O.noI at e; exact e) r
  | _, _, _, e, .mk hs r => fun a => mem_cons_or ⟨_, hs, trivial⟩ (OwK.mutL (by unfold O.noI at e; exact e) r)
  | _, _, _, e, .mq hs r => fun a => mem_cons_or ⟨_, hs, trivial⟩ (OwT.mutL (by unfold O.noI at e; exact e) r)
  | _, _, _, e, .mi _ _ _ => by unfold O.noI at e; cases e
  | _, _, _, e, .pin r => Ow.mutL (by unfold O.noI at e; exact e) r
  | _, _, _, e, .me _ hs r => fun a => mem_cons_or ⟨_, hs, trivial⟩ (OwK.mutL (by unfold O.noI at e; exact e) r)
theorem OwA.mutL : ∀ {v : List V} {o : List O} {A : List Addr}, O.noIA o = true → OwA tg K mg F H v o A → ∀ a ∈ A, ∃ u, H a = Option.some u ∧ MutL u
  | _, _, _, _, .nil => fun _ m => nomatch m
  | _, _, _, e, .cons r t => fun a => mem_app_or (Ow.mutL (by unfold O.noIA at e; exact (and2 e).1) r) (OwA.mutL (by unfold O.noIA at e; exact (and2 e).2) t)
theorem OwK.mutL : ∀ {v : List (Key × V)} {o : List (Key × O)} {A : List Addr}, O.noIK o = true → OwK tg K mg F H v o A → ∀ a ∈ A, ∃ u, H a = Option.some u ∧ MutL u
  | _, _, _, _, .nil => fun _ m => nomatch m
  | _, _, _, e, .cons r t => fun a => mem_app_or (Ow.mutL (by unfold O.noIK at e; exact (and2 e).1) r) (OwK.mutL (by unfold O.noIK at e; exact (and2 e).2) t)
theorem OwT.mutL : ∀ {v : List (List Key × V)} {o : List (List Key × O)} {A : List Addr}, O.noIT o = true → OwT tg K mg F H v o A → ∀ a ∈ A, ∃ u, H a = Option.some u ∧ MutL u
  | _, _, _, _, .nil => fun _ m => nomatch m
  | _, _, _, e, .cons r t => fun a => mem_app_or (Ow.mutL (by unfold O.noIT at e; exact (and2 e).1) r) (OwT.mutL (by unfold O.noIT at e; exact (and2 e).2) t)
end
theorem OwS.mutL : ∀ {σ : L2.St} {L : Sl} {A : List Addr}, noIS L = true → OwS tg K mg F H σ L A → ∀ a ∈ A, ∃ u, H a = Option.some u ∧ MutL u
  | _, _, _, _, .nil => fun _ m => nomatch m
  | _, _, _, e, .none t => OwS.mutL (by unfold noIS at e; exact e) t
  | _, _, _, e, .some r t => fun a => mem_app_or (Ow.mutL (by unfold noIS at e; exact (and2 e).1) r) (OwS.mutL (by unfold noIS at e; exact (and2 e).2) t)
def frL : Sl → Sl
  | [] => []
  | none :: L => none :: frL L
  | some o :: L => some (.v o.fr) :: frL L
theorem OwS.fr {Bs : List Addr} (hB : ∀ a ∈ Bs, F a = Option.none) : ∀ {σ : L2.St} {L : Sl} {A : List Addr}, (∀ a ∈ A, a ∈ Bs) → OwS tg K mg F H σ L A → OwS tg K mg (join F H Bs) H σ (frL L) []
  | _, _, _, _, .nil => .nil
  | _, _, _, h, .none t => .none (OwS.fr hB h t)
  | _, _, _, h, .some r t => OwS.some (A := []) (B := []) (.v (Ow.fr hB (fun a m => h a (List.mem_append_left _ m)) r)) (OwS.fr hB (fun a m => h a (List.mem_append_right _ m)) t)
end
section
variable {G : Gd} {Γ : Gm} {W : WX} {B : Bd} {F0 F H : Hp} {L : Sl} {A : List Addr} {σ : L2.St}
theorem Rl.view (R : Rl G B F0 L F A σ H) : Rl G ⟨B.h, []⟩ F0 (frL L) (join F H A) [] σ H := by
  have s1 : Same F (join F H A) := join_same fun a m => (R.fa a m).1
  refine ⟨R.os.fr (fun a m => (R.fa a m).1) (fun _ m => m), List.nodup_nil, join_le R.sf, R.f0.trans s1, R.sb, fun a h0 h1 => ?_, fun _ m => (nomatch m), fun _ m => nomatch m⟩
  by_cases hm : a ∈ A
  · exact absurd (R.fa a hm).2 h1.1
  · rw [join_not hm]; exact R.fb a h0 h1
theorem less_mem {a : Addr} (h : a ∈ A) : less F A a = none := if_pos h
theorem less_not {a : Addr} (h : a ∉ A) : less F A a = F a := if_neg h
theorem view_grow (R : Rl G B F0 L F A σ H) {F' H' : Hp} (g : Grow G (join F H A) H F' H') : Grow G F H (less F' A) H' := by
  refine ⟨g.sH, fun a u e => ?_, fun a u e => ?_, fun a e n => ?_⟩
  · have hm : a ∉ A := fun m => by rw [(R.fa a m).1] at e; cases e
    rw [less_not hm]
    exact g.sF _ _ (by rw [join_not hm]; exact e)
  · by_cases hm : a ∈ A
    · rw [less_mem hm] at e; cases e
    · rw [less_not hm] at e; exact g.le _ _ e
  · by_cases hm : a ∈ A
    · exact less_mem hm
    · rw [less_not hm]; exact g.hf a (by rw [join_not hm]; exact e) n
def vOk (L : Sl) (p : Bool → Bool) : Bool := p false || (noIS L && p true)
theorem view_kp (R : Rl G B F0 L F A σ H) {F' H' : Hp} (g : Grow G (join F H A) H F' H') {p : Bool → Bool} (h : vOk L p = true) : ∃ i, p i = true ∧ KpI i F' (less F' A) := by
  have at1 : ∀ a ∈ A, ∀ u, F' a = some u → H a = some u := fun a m u e => by
    obtain ⟨w, hw⟩ := R.os.tracked a m
    have := g.sF a w (by rw [join_mem m]; exact hw)
    rw [e] at this; cases this; exact hw
  have tup : ∀ a xs, F' a = some (.tup xs) → less F' A a = some (.tup xs) := fun a xs e => by
    by_cases hm : a ∈ A
    · obtain ⟨u, hu, mu⟩ := R.os.mut a hm
      rw [at1 a hm _ e] at hu; cases hu; exact mu.elim
    · rw [less_not hm]; exact e
  unfold vOk at h
  rw [Bool.or_eq_true] at h
  rcases h with h | h
  · exact ⟨false, h, tup, fun z => by cases z⟩
  · refine ⟨true, (and2 h).2, tup, fun _ a C dx fs e => ?_⟩
    by_cases hm : a ∈ A
    · obtain ⟨u, hu, mu⟩ := R.os.mutL (and2 h).1 a hm
      rw [at1 a hm _ e] at hu; cases hu; exact mu.elim
    · rw [less_not hm]; exact e
def vT {α : Type} (m : Sl → R α) : Sl → R α := fun L => m (frL L)
def vE (m : Sl → R D) : Sl → R D := fun L => (m (frL L)).bind fun d => if vOk L d.pl = true then .ok d else .stuck
def vO (m : Sl → R O) : Sl → R O := fun L => (m (frL L)).bind fun d => if vOk L d.pl = true then .ok d else .stuck
theorem ce_view {e : Expr} {m : Sl → R D} (h : CE G Γ e m) : CE G Γ e (vE m) := by
  refine fun X ok W tk => PE.imp (h X ok W tk) fun σ H Q h => ?_
  obtain ⟨B, F0, L, F, A, R, h⟩ := h
  refine ⟨_, F0, _, _, _, R.view, ?_⟩
  unfold vE at h
  cases e : m (frL L) with
  | ok a =>
    rw [e] at h
    have h : pG G W σ F H (if vOk L a.pl = true then .ok a else .stuck) (fun d F' H' => ∀ v, Rp G.K G.mg F' v d → Q v H') := h
    split at h
    · rename_i hv
      intro F' H' g v rv
      obtain ⟨i, hi, kp⟩ := view_kp R g hv
      exact h _ H' (view_grow R g) v (rv.un kp hi)
    · exact h.elim
  | exc c => rw [e] at h; obtain ⟨C, eC, h⟩ := h; exact ⟨C, eC, fun F' H' g => h _ H' (view_grow R g)⟩
  | stuck => rw [e] at h; exact h.elim
theorem get_set {α : Type} {l : List α} {i : Nat} {x : α} (h : l[i]? = some x) : l.set i x = l := by
  obtain ⟨hi, e⟩ := List.getElem?_eq_some_iff.mp h
  subst e; exact List.set_getElem_self hi
theorem Rl.frzS (R : Rl G B F0 L F A σ H) {i : Nat} {o : O} (e : L[i]? = some (some o)) (hp : isPin L i = false) : ∃ F' A', Same F F' ∧ Rl G B F0 (L.set i (some (.v o.fr))) F' A' σ H := by
  obtain ⟨v, A1, Ai, A2, h1, h2, h3, h4⟩ := R.os.get e
  have hi : ∀ a ∈ Ai, a ∈ A := fun a m => by rw [h3]; simp [m]
  have s1 : Same F (join F H Ai) := join_same fun a m => (R.fa a (hi a m)).1
  have nd := R.nd
  rw [h3] at nd
  have n1 := List.nodup_append.mp nd
  have n2 := List.nodup_append.mp n1.1
  have q := h4 (join F H Ai) H v (.v o.fr) [] s1 (fun _ _ => rfl) (.v (Ow.fr (fun a m => (R.fa a (hi a m)).1) (fun a m => m) h2))
  rw [get_set h1, List.append_nil] at q
  have sub : ∀ a ∈ A1 ++ A2, a ∈ A ∧ a ∉ Ai := fun a m => by
    refine ⟨by rw [h3]; simp at m ⊢; rcases m with m | m <;> simp [m], fun ha => ?_⟩
    rcases List.mem_append.mp m with m | m
    · exact n2.2.2 a m a ha rfl
    · exact n1.2.2 a (List.mem_append_right _ ha) a m rfl
  refine ⟨join F H Ai, A1 ++ A2, s1, q, ?_, join_le R.sf, R.f0.trans s1, R.sb, fun a h0 h1 => ?_, fun a m => ?_, by have z := pn_set (x := some (.v o.fr)) (y := some v) hp R.pn; rw [get_set h1] at z; exact z⟩
  · exact List.nodup_append.mpr ⟨n2.1, n1.2.1, fun a ha b hb => n1.2.2 a (List.mem_append_left _ ha) b hb⟩
  · by_cases hm : a ∈ Ai
    · exact absurd (R.fa a (hi a hm)).2 h1.1
    · rw [join_not hm]; exact R.fb a h0 h1
  · obtain ⟨m1, m2⟩ := sub a m
    rw [join_not m2]; exact R.fa a m1
def sFrz (i : Nat) (k : Sl → RS) : Sl → RS := fun L => match L[i]? with | some (some o) => if okSet L i = true then k (L.set i (some (.v o.fr))) else .stuck | _ => .stuck
theorem frz_end {i : Nat} {k : Sl → RS} {D' : Ends} (h : tS G W (sFrz i k) D' σ H) : tS G W k D' σ H := by
  obtain ⟨B, F0, L, F, A, R, h⟩ := h
  unfold sFrz at h
  split at h
  · rename_i o e
    split at h
    · rename_i hok
      obtain ⟨F', A', s, R'⟩ := R.frzS e (okSet_of hok).2
      exact ⟨B, F0, _, F', A', R', pS.mono s h⟩
    · exact h.elim
  · exact h.elim
theorem cs_frz (i : Nat) {b : Stmt} {k : Sl → RS} (h : CS G Γ b k) : CS G Γ b (sFrz i k) := fun X ok W tk => PS.imp (h X ok W tk) fun D σ H h => frz_end h
end
def sl0 (n : Nat) (ds : List D) : Sl := ds.map (fun d => some (.v d)) ++ List.replicate (n - ds.length) none
def out : RS → R O
  | .next _ => .ok (.v .non)
  | .ret o _ => .ok o
  | .exc c _ => .exc c
  | _ => .stuck
def runD (n : Nat) (m : Sl → RS) (ar : Nat) (ds : List D) : R O := if ds.length = ar then out (m (sl0 n ds)) else .stuck
theorem ow0 {tg : Tg} {K : PySem.W.Frag} {mg : Str → Option Value} {F H : Hp} : ∀ {vs : List V} {ds : List D} {m : Nat}, RpA K mg F vs ds → OwS tg K mg F H (vs.map some ++ List.replicate m none) (ds.map (fun d => some (.v d)) ++ List.replicate m none) []
  | _, _, m, .nil => by
    induction m with
    | zero => exact .nil
    | succ m ih => rw [List.map_nil, List.map_nil, List.nil_append, List.nil_append, List.replicate_succ, List.replicate_succ]; exact .none (by simpa using ih)
  | _, _, m, .cons r t => OwS.some (A := []) (B := []) (.v r) (ow0 t)
theorem fnok_of {G : Gd} {Γ : Gm} {name : Str} {st : Stmt} {f : Addr} {fd : FuncData} {ps : List Str} {m : Sl → RS} {k : Nat} (F : Fun G.K name name st f fd) (S : FnScope Γ.N ps (defScope st)) (hsc : Γ.sc = defScope st)
    (hk : Γ.k = k) (c : CSs G Γ (defBody st) m) (hlq : Γ.lq = none := by rfl) : FnOk G.P G.w G.K G.mg G.base (L2.CX G.P G.w) (k + 1) f fd ps (spV G (runD Γ.N.length m ps.length)) := by
  subst hk
  refine F.okX S (fun vs H Q E h => ?_) (fun cdv A outer s H vs Q E hr h => ?_)
  · obtain ⟨F0, ds, s0, tb, r, h⟩ := h
    rw [r.length]
    by_cases e : ds.length = ps.length
    · exact e
    · have z : runD Γ.N.length m ps.length ds = .stuck := if_neg e
      rw [z] at h; exact h.elim
  · obtain ⟨F0, ds, s0, tb, r, h⟩ := h
    have hlen : ds.length = ps.length := by
      by_cases e : ds.length = ps.length
      · exact e
      · have z : runD Γ.N.length m ps.length ds = .stuck := if_neg e
        rw [z] at h; exact h.elim
    have hrun : runD Γ.N.length m ps.length ds = out (m (sl0 Γ.N.length ds)) := if_pos hlen
    rw [hrun] at h
    refine ⟨tS G (fun cls d _ H' => E cls d H') m, c _ ⟨rfl, rfl, rfl, rfl, rfl, rfl, S.nd, hsc.symm, S.kind, fun _ => rfl, fun _ => hr, un_of hr, passes_of rfl, fun _ _ => .inl rfl, fun _ => ⟨rfl, rfl⟩, fun q e => by rw [hlq] at e; cases e⟩ _ (takes_of rfl rfl rfl rfl), ?_⟩
    refine ⟨⟨H, []⟩, F0, sl0 Γ.N.length ds, F0, [], ⟨?_, List.nodup_nil, s0, .refl _, ⟨.refl _, tb⟩, fun _ e _ => e, fun _ m => (nomatch m), fun _ m => nomatch m⟩, ?_⟩
    · unfold L2.start sl0
      rw [r.length]
      exact ow0 r
    · cases e : m (sl0 Γ.N.length ds) with
      | next L =>
        rw [e] at h
        rintro σ' H' ⟨F', A', s', R'⟩
        exact h .non H' (ret_v R' .non).ret
      | ret o L => rw [e] at h; exact fun v H' q => h v H' q.ret
      | exc c L =>
        rw [e] at h
        obtain ⟨C, eC, h⟩ := h
        exact ⟨C, eC, fun σ' H' ⟨F', A', s', R'⟩ => h H' R'.sb.kp (R'.f0.trans R'.sf)⟩
      | brk L => rw [e] at h; exact h.elim
      | cont L => rw [e] at h; exact h.elim
      | stuck => rw [e] at h; exact h.elim
theorem fnx_of {G : Gd} {Γ : Gm} {name : Str} {st : Stmt} {f : Addr} {fd : FuncData} {ps : List Str} {m : Sl → RS} {k : Nat} (F : Fun G.K name name st f fd) (hmg : G.mg name = some (.ref f)) (S : FnScope Γ.N ps (defScope st)) (hsc : Γ.sc = defScope st)
    (hb : Binds G.K fd ps []) (hk : Γ.k = k) (c : CSs G Γ (defBody st) m) (hlq : Γ.lq = none := by rfl) : FnX G ⟨name, k + 1, ps.length, runD Γ.N.length m ps.length⟩ :=
  ⟨f, fd, ps, rfl, hmg, F.kp, hb, fnok_of F S hsc hk c hlq⟩
structure DefF (K : PySem.W.Frag) (x : Str) (st : Stmt) : Prop where
  ex : ∃ (f : Addr) (oc : Value) (od an : Option Addr) (osl : Array (Option Value)) (kV doc pm cdv ct : Value), PySem.W.nsIn K mainGlobals x = some (some (.ref f)) ∧
    K.lookup f = some ⟨oc, od, .func (PySem.W.fnOf x x (defArgs st) (defBody st) (defScope st) .none kV doc pm an cdv ct), osl⟩ ∧ PySem.W.codeIn K cdv x = true ∧ PySem.W.keepIn K (.ref f) = true
theorem DefF.fn {K : PySem.W.Frag} {x : Str} {st : Stmt} (D : DefF K x st) : ∃ f fd, PySem.W.nsIn K mainGlobals x = some (some (.ref f)) ∧ Fun K x x st f fd ∧
    ∃ (kV doc pm : Value) (an : Option Addr) (cdv ct : Value), fd = PySem.W.fnOf x x (defArgs st) (defBody st) (defScope st) .none kV doc pm an cdv ct := by
  obtain ⟨f, oc, od, an, osl, kV, doc, pm, cdv, ct, h1, h2, h3, h4⟩ := D.ex
  exact ⟨f, _, h1, fun_mk h2 h3 h4, _, _, _, _, _, _, rfl⟩
def BindB (st : Stmt) (x : Str) (ps : List Str) : Prop := ∀ (kV doc pm : Value) (an : Option Addr) (cdv ct : Value) (us : List Value), us.length = ps.length → bindArgs (PySem.W.fnOf x x (defArgs st) (defBody st) (defScope st) .none kV doc pm an cdv ct) ⟨us, []⟩ = pure (ps.zip us)
theorem DefF.fnx {G : Gd} {h : Heap} {Γ : Gm} {x : Str} {st : Stmt} {ps : List Str} {m : Sl → RS} {k : Nat} (D : DefF G.K x st) (X : G.K.In h) (N : h.Ns mainGlobals G.mg) (S : FnScope Γ.N ps (defScope st)) (hsc : Γ.sc = defScope st)
    (hb : BindB st x ps) (hk : Γ.k = k) (c : CSs G Γ (defBody st) m) (hlq : Γ.lq = none := by rfl) : FnX G ⟨x, k + 1, ps.length, runD Γ.N.length m ps.length⟩ := by
  obtain ⟨f, fd, h1, F, _⟩ := D.fn
  exact fnx_of F (PySem.W.mg_of X N h1) S hsc (F.binds hb) hk c hlq
def spLaw (K : PySem.W.Frag) (n : Nat) : Sp := fun vs H Q _ => ∃ (a : Addr) (ns : List Int), vs = [.ref a] ∧ SqL K H a (ns.map V.int) ∧ ns.length ≤ n ∧ ∀ H', Q (.bl true) H'
theorem ints_rp {K : PySem.W.Frag} {mg : Str → Option Value} {F : Hp} : ∀ ns : List Int, RpA K mg F (ns.map V.int) (ns.map D.int)
  | [] => .nil
  | _ :: r => .cons (.int _) (ints_rp r)
theorem tb0_nil {G : Gd} {H F : Hp} (hT : G.T = []) : Tb0 G H F := ⟨fun p m => (by rw [hT] at m; cases m), fun p m => (by rw [hT] at m; cases m)⟩
theorem law_end {G : Gd} {k n : Nat} {f : Addr} {fd : FuncData} {x : Str} {fn : List D → R O} (F : FnOk G.P G.w G.K G.mg G.base (L2.CX G.P G.w) k f fd [x] (spV G fn)) (h : ∀ ns : List Int, ns.length ≤ n → fn [.lst (ns.map .int)] = .ok (.v (.bl true))) (hT : G.T = [] := by rfl) :
    FnOk G.P G.w G.K G.mg G.base (L2.CX G.P G.w) k f fd [x] (spLaw G.K n) := F.imp fun vs H Q E ⟨a, ns, e, hs, hl, q⟩ => by
  subst e
  refine ⟨H, [.lst (ns.map .int)], .refl _, tb0_nil hT, .cons (.lst hs (ints_rp ns)) .nil, ?_⟩
  rw [h ns hl]
  rintro v H' ⟨F, A, s1, s2, s3, s4, ow, nC, fC⟩
  cases ow with
  | v r => cases r; exact q H'
theorem cx_no {P : Program} {w : World} {H : Hp} {s : Shared} {e : Value} {s' : Shared} : L2.CX P w [] H s (fun _ _ _ => False) e s' → False := by
  rintro ⟨a, B, H', cls, d, _, _, _, _, _, _, _, z⟩
  exact z
end Eng
end
section
set_option Elab.async false
set_option linter.all false
set_option maxRecDepth 100000
set_option maxHeartbeats 4000000
namespace Eng
open PySem PySem.Spec PyProof.Rows L2
section
variable {G : Gd} {Γ : Gm}
def varB (Γ : Gm) (i : Nat) (x : Str) : Bool := decide (Γ.N[i]? = some x) && visB Γ.sc x && !(x == ("__debug__" : Str)) && !(x == ("__classdict__" : Str))
theorem ce_v {i : Nat} {x : Str} {pos : Pos} (h : varB Γ i x = true) : CE G Γ (.Name x pos) (mVar i) := by
  unfold varB at h
  obtain ⟨h1, h4⟩ := and2 h
  obtain ⟨h1, h3⟩ := and2 h1
  obtain ⟨h1, h2⟩ := and2 h1
  exact ce_var (of_decide_eq_true h1) h2 (by simpa using h3) (by simpa using h4)
def stB (Γ : Gm) (i : Nat) (x : Str) : Bool := decide (Γ.N[i]? = some x) && locB Γ.sc x && Γ.st x
theorem cg_n {i : Nat} {x : Str} {pos : Pos} (h : stB Γ i x = true) : CG G Γ (.Name x pos) [i] (put i) := by
  unfold stB at h
  obtain ⟨h1, h3⟩ := and2 h
  obtain ⟨h1, h2⟩ := and2 h1
  exact cg_name (of_decide_eq_true h1) h2 h3
theorem cs_s {i : Nat} {x : Str} {e : Expr} {m : Sl → R D} {p pos : Pos} (hs : stB Γ i x = true) (hb : (setOk e && !swapB Γ.sc x p e) = true) (h : CE G Γ e m) : CS G Γ (.Assign [.Name x p] e pos) (sSet i m) := by
  unfold stB at hs
  obtain ⟨h1, h3⟩ := and2 hs
  obtain ⟨h1, h2⟩ := and2 h1
  exact cs_set (of_decide_eq_true h1) h2 h3 (and2 hb).1 (by simpa using (and2 hb).2) h
theorem cs_so {i : Nat} {x : Str} {e : Expr} {m : Sl → R O} {p pos : Pos} (hs : stB Γ i x = true) (hb : (setOk e && !swapB Γ.sc x p e) = true) (h : CO G Γ e m) : CS G Γ (.Assign [.Name x p] e pos) (sSetO i m) := by
  unfold stB at hs
  obtain ⟨h1, h3⟩ := and2 hs
  obtain ⟨h1, h2⟩ := and2 h1
  exact cs_setO (of_decide_eq_true h1) h2 h3 (and2 hb).1 (by simpa using (and2 hb).2) h
theorem cs_lcV {elt tg iter : Expr} {ifs : List Expr} {scope : Scope} {own : List (Str × Nat)} {ws : List Nat} {p pos spos : Pos} {it : Sl → R (List D)} {gm : D → Sl → Option Sl} {tst : Sl → R Bool} {el : Sl → R D} {i : Nat} {y : Str}
    (hs : stB Γ i y = true) (hsw : swapB Γ.sc y p (.ListComp elt [⟨tg, iter, ifs, 0⟩] scope pos) = true)
    (hi : CI G Γ tg iter it) (hb : blkC Γ.N Γ.sc scope own = true) (hsub : ∀ i ∈ ws, i ∈ own.map (·.2)) (hg : CG G (Γ.blk scope) tg ws gm) (ht : CTs G (Γ.blk scope) ifs tst) (he : CE G (Γ.blk scope) elt el) (hn : (noSet iter && Γ.cm) = true) :
    CS G Γ (.Assign [.Name y p] (.ListComp elt [⟨tg, iter, ifs, 0⟩] scope pos) spos) (sSet i (mFr (mLc it (own.map (·.2)) gm tst el))) := by
  unfold stB at hs
  exact cs_setLcV (of_decide_eq_true (and2 (and2 hs).1).1) hsw hi hb hsub hg ht he hn
theorem cs_retXn {i : Nat} {x : Str} {p pos : Pos} (h : varB Γ i x = true) : CS G Γ (.Return (some (.Name x p)) pos) (sRetX i) := by
  unfold varB at h
  obtain ⟨h1, h4⟩ := and2 h
  obtain ⟨h1, h3⟩ := and2 h1
  obtain ⟨h1, h2⟩ := and2 h1
  exact cs_retX (of_decide_eq_true h1) h2 (by simpa using h3) (by simpa using h4)
theorem cs_ra (gr : Γ.Gr G) {c m : Str} {j : Nat} {p p2 p3 pos : Pos} (h : (Γ.cm && decide (c ∈ Γ.E) && glB Γ.sc c && !(c == ("__debug__" : Str))) = true) : CS G Γ (.Raise (some (.Call (.Name c p) [.Constant (.str m) j p2] [] p3)) none pos) (sRaise c) :=
  cs_raise gr (and2 (and2 (and2 h).1).1).1 (of_decide_eq_true (and2 (and2 (and2 h).1).1).2) (and2 (and2 h).1).2 (by simpa using (and2 h).2)
def attrB : Expr → Bool | .Call (.Name _ _) [] [] _ => false | _ => true
theorem attr_base {o : Expr} (h : attrB o = true) (attr : Str) (env : Env) (whole : Sem Value) : attributeBase o attr env whole = whole := by
  unfold attributeBase
  split
  · cases h
  · rfl
def asS : D → Option Str | .str i => some i | _ => none
theorem Rp.str_inv {K : PySem.W.Frag} {mg : Str → Option Value} {F : Hp} {v : V} {d : D} {b : Str} (r : Rp K mg F v d) (e : asS d = some b) : v = .str b := by
  cases r <;> first | (cases e; done) | (injection e with e; subst e; rfl)
def rM1 (G : Gd) (f : D → D → Option D) : V → List V → Hp → VK → Prop := fun x xs H Q => ∃ y, xs = [y] ∧ rV G f x y H Q
def Mt1 (G : Gd) (f : D → D → Option D) (id : String) : Prop := ∀ (X : Cx) (Γ : Gm), Γ.Ok G X → MtR X id (rM1 G f)
def mS1 (f : D → D → Option D) (a b : Sl → R D) : Sl → R D := fun L => (a L).bind fun x => (lift (asS x)).bind fun _ => (b L).bind fun y => lift (f x y)
theorem ce_s1 {id : String} {name : Str} {f : D → D → Option D} {o e : Expr} {ma mb : Sl → R D} {apos pos : Pos} (slot : Slot "str" name id) (ty : typeOf (.builtin id) = pure (.type "method_descriptor")) (rule : Mt1 G f id)
    (ha : attrB o = true) (hl : (apos.endLine == pos.line) = true) (hs : nst e = true) (ho : CE G Γ o ma) (he : CE G Γ e mb) : CE G Γ (.Call (.Attribute o name apos) [e] [] pos) (mS1 f ma mb) := by
  refine fun X ok W tk => PE.imp (pe_m1 slot ty (rule X Γ ok) (ho X ok W tk) (he X ok W tk) (star1 hs) (attr_base ha _ _ _) hl) fun σ H Q h => ?_
  obtain ⟨B, F0, L, F, A, R, h⟩ := h
  refine ⟨B, F0, L, F, A, R, (pG.bind h).imp R fun d F1 H1 s1 R1 g1 h1 v rv => ?_⟩
  cases ed : asS d with
  | none => rw [ed] at h1; exact h1.elim
  | some z =>
    rw [ed] at h1
    have h1 : pG G W σ F1 H1 ((mb L).bind fun y => lift (f d y)) (fun d F' H' => ∀ v, Rp G.K G.mg F' v d → Q v H') := h1
    refine ⟨⟨z, rv.str_inv ed⟩, B, F0, L, F1, A, R1, (pG.bind h1).imp R1 fun d2 F2 H2 s2 R2 g2 h2 v2 rv2 => ?_⟩
    cases e2 : f d d2 with
    | none => rw [e2] at h2; exact h2.elim
    | some r =>
      rw [e2] at h2
      exact ⟨v2, rfl, F2, d, d2, r, R2.sf, rv.mono s2, rv2, e2, fun v F' H' g rr => h2 F' H' g v rr⟩
def joinOk (a : Str) (ys : List Str) : Bool := decide ((ys.map (·.length)).sum + ys.length * a.length ≤ 16777216)
def fJoin : D → D → Option D
  | .str a, .lst ds => (strsD ds).bind fun ys => if joinOk a ys = true then some (.str (Txt.join a ys)) else none
  | .str a, .tup ds => (strsD ds).bind fun ys => if joinOk a ys = true then some (.str (Txt.join a ys)) else none
  | _, _ => none
theorem m_join : Mt1 G fJoin "str.join" := by
  intro X Γ ok pins s σ H x xs v us Q I rx rs h
  obtain ⟨y, rfl, F, dx, dy, d, sf, hx, hy, e, h⟩ := h
  unfold fJoin at e
  split at e
  · obtain ⟨ys, e1, e2⟩ := bind_some e
    split at e2
    · rename_i hz
      cases e2
      cases hx
      cases hy with
      | lst h1 r1 =>
        obtain rfl := r1.strsD e1
        exact mt_join pins s σ H _ _ v us Q I rx rs ⟨_, _, ys, rfl, rfl, .inl (by rw [ok.K]; exact Same.seq sf h1), of_decide_eq_true hz, h _ F H (.refl sf) (.str _)⟩
    · cases e2
  · obtain ⟨ys, e1, e2⟩ := bind_some e
    split at e2
    · rename_i hz
      cases e2
      cases hx
      cases hy with
      | tup h1 r1 =>
        obtain rfl := r1.strsD e1
        exact mt_join pins s σ H _ _ v us Q I rx rs ⟨_, _, ys, rfl, rfl, .inr (by rw [ok.K]; exact sf.tq h1), of_decide_eq_true hz, h _ F H (.refl sf) (.str _)⟩
    · cases e2
  · cases e
theorem ce_join {o e : Expr} {ma mb : Sl → R D} {apos pos : Pos} (hc : (attrB o && (apos.endLine == pos.line) && nst e) = true) (ho : CE G Γ o ma) (he : CE G Γ e mb) : CE G Γ (.Call (.Attribute o "join" apos) [e] [] pos) (mS1 fJoin ma mb) :=
  ce_s1 F.slot_str_join F.type_str_join m_join (and2 (and2 hc).1).1 (and2 (and2 hc).1).2 (and2 hc).2 ho he
def bltB (Γ : Gm) (x : Str) (a : Expr) (es : List Expr) : Bool := Γ.cm && decide (x ∈ Γ.X) && glB Γ.sc x && nst a && es.all nst && decide (x ≠ ("__name__" : Str)) && !(x == ("__debug__" : Str))
theorem bltB_of {x : Str} {a : Expr} {es : List Expr} (h : bltB Γ x a es = true) : x ∈ Γ.X ∧ glB Γ.sc x = true ∧ nst a = true ∧ es.all nst = true ∧ x ≠ "__name__" ∧ (x == ("__debug__" : Str)) = false ∧ Γ.cm = true := by
  unfold bltB at h
  obtain ⟨h, h6⟩ := and2 h
  obtain ⟨h, h5⟩ := and2 h
  obtain ⟨h, h4⟩ := and2 h
  obtain ⟨h, h3⟩ := and2 h
  obtain ⟨h, h2⟩ := and2 h
  obtain ⟨h0, h1⟩ := and2 h
  exact ⟨of_decide_eq_true h1, h2, h3, h4, of_decide_eq_true h5, by simpa using h6, h0⟩
theorem ce_bn (gr : Γ.Gr G) {f : List D → Option D} {x : Str} {id : String} {a : Expr} {es : List Expr} {m : Sl → R (List D)} {p pos : Pos} (hc : Blt G f (.builtin id)) (hv : bootBuiltins x = some (.builtin id)) (h : bltB Γ x a es = true) (ha : CA G Γ (a :: es) m) :
    CE G Γ (.Call (.Name x p) (a :: es) [] pos) (mF f m) := by
  obtain ⟨h1, h2, h3, h4, h5, h6, h7⟩ := bltB_of h
  exact ce_blt gr hc h1 hv h2 h3 h4 h5 h6 h7 ha
theorem ce_tn (gr : Γ.Gr G) {f : List D → Option D} {x : Str} {id : String} {a : Expr} {es : List Expr} {m : Sl → R (List D)} {p pos : Pos} (hc : Blt G f (.type id)) (hv : bootBuiltins x = some (.type id)) (h : bltB Γ x a es = true) (ha : CA G Γ (a :: es) m) :
    CE G Γ (.Call (.Name x p) (a :: es) [] pos) (mF f m) := by
  obtain ⟨h1, h2, h3, h4, h5, h6, h7⟩ := bltB_of h
  exact ce_ty gr hc h1 hv h2 h3 h4 h5 h6 h7 ha
def callB (Γ : Gm) (e : FE) (a : Expr) (es : List Expr) : Bool := decide (Γ.cm = true ∧ e.k ≤ Γ.k) && glB Γ.sc e.name && nst a && es.all nst && !(e.name == ("__debug__" : Str))
theorem co_cn (gr : Γ.Gr G) {e : FE} {a : Expr} {es : List Expr} {m : Sl → R (List D)} {p pos : Pos} (hm : e ∈ Γ.T) (h : callB Γ e a es = true) (ha : CA G Γ (a :: es) m) : CO G Γ (.Call (.Name e.name p) (a :: es) [] pos) (mCall e.fn m) := by
  unfold callB at h
  obtain ⟨h, h5⟩ := and2 h
  obtain ⟨h, h4⟩ := and2 h
  obtain ⟨h, h3⟩ := and2 h
  obtain ⟨h1, h2⟩ := and2 h
  exact co_call gr hm (of_decide_eq_true h1) h2 h3 h4 (by simpa using h5) ha
def isiB (Γ : Gm) (x : Str) (a : Expr) : Bool := decide (("isinstance" : Str) ∈ Γ.X) && decide (x ∈ Γ.X) && glB Γ.sc "isinstance" && glB Γ.sc x && nst a && decide (x ≠ ("__name__" : Str)) && !(x == ("__debug__" : Str))
theorem ce_isn (gr : Γ.Gr G) {x : Str} {t : String} {a : Expr} {m : Sl → R D} {p p2 pos : Pos} (hv : bootBuiltins x = some (.type t)) (h : isiB Γ x a = true) (ha : CE G Γ a m) : CE G Γ (.Call (.Name "isinstance" p) [a, .Name x p2] [] pos) (m1 (fIsi t) m) := by
  unfold isiB at h
  obtain ⟨h, h7⟩ := and2 h
  obtain ⟨h, h6⟩ := and2 h
  obtain ⟨h, h5⟩ := and2 h
  obtain ⟨h, h4⟩ := and2 h
  obtain ⟨h, h3⟩ := and2 h
  obtain ⟨h1, h2⟩ := and2 h
  exact ce_isi gr (of_decide_eq_true h1) (of_decide_eq_true h2) h3 h4 hv (of_decide_eq_true h6) (by simpa using h7) h5 ha
theorem ce_gl (gr : Γ.Gr G) {x : Str} {d : D} {pos : Pos} (hm : (x, d) ∈ Γ.C) (hg : (glB Γ.sc x && !(x == ("__debug__" : Str))) = true) : CE G Γ (.Name x pos) (mC d) := ce_glob gr hm (and2 hg).1 (by simpa using (and2 hg).2)
def rngB (Γ : Gm) (x : Str) (es : List Expr) : Bool := decide (x ∈ Γ.X) && glB Γ.sc x && es.all nst
theorem ci_r1 (gr : Γ.Gr G) {tg a : Expr} {m : Sl → R D} {p pos : Pos} (h : rngB Γ "range" [a] = true) (ha : CE G Γ a m) : CI G Γ tg (.Call (.Name "range" p) [a] [] pos) (mRg1 m) := by
  unfold rngB at h
  obtain ⟨h, h3⟩ := and2 h
  obtain ⟨h1, h2⟩ := and2 h
  exact ci_rng1 gr (of_decide_eq_true h1) h2 (by simpa using h3) ha
theorem ci_r2 (gr : Γ.Gr G) {tg a b : Expr} {ma mb : Sl → R D} {p pos : Pos} (h : rngB Γ "range" [a, b] = true) (ha : CE G Γ a ma) (hb : CE G Γ b mb) : CI G Γ tg (.Call (.Name "range" p) [a, b] [] pos) (mRg2 ma mb) := by
  unfold rngB at h
  obtain ⟨h, h3⟩ := and2 h
  obtain ⟨h1, h2⟩ := and2 h
  simp at h3
  exact ci_rng2 gr (of_decide_eq_true h1) h2 h3.1 h3.2 ha hb
theorem ci_en (gr : Γ.Gr G) {elts : List Expr} {kk : Nat} {tpos : Pos} {a : Expr} {m : Sl → R D} {p pos : Pos} (h : rngB Γ "enumerate" [a] = true) (ha : CE G Γ a m) : CI G Γ (.Tuple elts kk tpos) (.Call (.Name "enumerate" p) [a] [] pos) (mEn m) := by
  unfold rngB at h
  obtain ⟨h, h3⟩ := and2 h
  obtain ⟨h1, h2⟩ := and2 h
  exact ci_enum gr (of_decide_eq_true h1) h2 (by simpa using h3) ha
end
end Eng
end
section
set_option Elab.async false
set_option linter.all false
set_option maxRecDepth 100000
set_option maxHeartbeats 4000000
namespace Eng
open PySem PySem.Spec PyProof.Rows L2
section
variable {G : Gd} {Γ : Gm} {W : WX} {B : Bd} {F0 F H : Hp} {L : Sl} {A : List Addr} {σ : L2.St}
def pinO : O → Bool | .mi p _ _ => p | .pin _ => true | _ => false
theorem isPin_at {i : Nat} {o : O} (e : L[i]? = some (some o)) : isPin L i = pinO o := by
  unfold isPin pinO
  rw [e]
  cases o <;> rfl
theorem pn_mut {i : Nat} {o o' : O} {P : List (Nat × Addr)} (e : L[i]? = some (some o)) (ho : pinO o' = pinO o) (h : ∀ q ∈ P, σ[q.1]? = some (some (.ref q.2)) ∧ isPin L q.1 = true) : ∀ q ∈ P, σ[q.1]? = some (some (.ref q.2)) ∧ isPin (L.set i (some o')) q.1 = true := fun q m => by
  obtain ⟨h1, h2⟩ := h q m
  refine ⟨h1, ?_⟩
  by_cases z : i = q.1
  · subst z
    have hi := (List.getElem?_eq_some_iff.mp e).1
    rw [isPin_at (o := o') (by rw [List.getElem?_set_self hi]), ho, ← isPin_at e]; exact h2
  · unfold isPin at h2 ⊢
    rw [List.getElem?_set_ne z]; exact h2
theorem Rl.mut (R : Rl G B F0 L F A σ H) {i : Nat} {o : O} (e : L[i]? = some (some o)) : ∃ v Ai, σ[i]? = some (some v) ∧ Ow G.tg G.K G.mg F H v o Ai ∧ (∀ a ∈ Ai, a ∈ A) ∧ Ai.Nodup ∧
    ∀ (H' : Hp) (o' : O) (Ai' : List Addr), pinO o' = pinO o → (∀ x, x ∉ Ai → (∃ u, H x = some u) → H' x = H x) → Ow G.tg G.K G.mg F H' v o' Ai' → Ai'.Nodup → (∀ a ∈ Ai', a ∈ Ai ∨ (F a = none ∧ B.h a = none ∧ a ∉ A)) → ∃ A', Rl G B F0 (L.set i (some o')) F A' σ H' := by
  obtain ⟨v, A1, Ai, A2, h1, h2, h3, h4⟩ := R.os.get e
  have nd := R.nd
  rw [h3] at nd
  have n1 := List.nodup_append.mp nd
  have n2 := List.nodup_append.mp n1.1
  have hi : ∀ a ∈ Ai, a ∈ A := fun a m => by rw [h3]; simp [m]
  have oth : ∀ a, a ∈ A1 ∨ a ∈ A2 → a ∈ A ∧ a ∉ Ai := fun a m => by
    refine ⟨by rw [h3]; rcases m with m | m <;> simp [m], fun ha => ?_⟩
    rcases m with m | m
    · exact n2.2.2 a m a ha rfl
    · exact n1.2.2 a (List.mem_append_right _ ha) a m rfl
  refine ⟨v, Ai, h1, h2, hi, n2.2.1, fun H' o' Ai' hpo hk ow nd' hA => ?_⟩
  have q := h4 F H' v o' Ai' (.refl _) (fun a m => hk a (oth a m).2 (R.os.tracked a (oth a m).1)) ow
  rw [get_set h1] at q
  have notA : ∀ a, F a ≠ none → a ∉ Ai := fun a hf m => hf (R.fa a (hi a m)).1
  have notB : ∀ a, B.h a ≠ none → a ∉ Ai := fun a hf m => hf (R.fa a (hi a m)).2
  have sep : ∀ a ∈ Ai', ∀ b, b ∈ A1 ∨ b ∈ A2 → a ≠ b := fun a ha b hb z => by
    subst z
    rcases hA a ha with h | h
    · exact (oth a hb).2 h
    · exact h.2.2 (oth a hb).1
  refine ⟨A1 ++ Ai' ++ A2, q, ?_, fun a u e => ?_, R.f0, R.sb.mut hk (fun a m => (R.fa a (hi a m)).2) (fun a m => R.os.mut a (hi a m)), R.fb, fun a m => ?_, pn_mut e hpo R.pn⟩
  · refine List.nodup_append.mpr ⟨List.nodup_append.mpr ⟨n2.1, nd', fun a ha b hb z => sep b hb a (.inl ha) z.symm⟩, n1.2.1, fun a ha b hb z => ?_⟩
    rcases List.mem_append.mp ha with ha | ha
    · exact n1.2.2 a (List.mem_append_left _ ha) b hb z
    · exact sep a ha b (.inr hb) z
  · have hu := R.sf a u e
    rw [hk a (notA a (by rw [e]; intro z; cases z)) ⟨u, hu⟩]; exact hu
  · rcases List.mem_append.mp m with m | m
    · rcases List.mem_append.mp m with m | m
      · exact R.fa a (oth a (.inl m)).1
      · rcases hA a m with h | h
        · exact R.fa a (hi a h)
        · exact ⟨h.1, h.2.1⟩
    · exact R.fa a (oth a (.inr m)).1
def sApp (i : Nat) (m : Sl → R O) : Sl → RS := fun L => match L[i]? with
  | some (some (.ml _)) => sBind m (fun o L => match L[i]? with | some (some (.ml os)) => if os.length < sizeLine then .next (L.set i (some (.ml (os ++ [o])))) else .stuck | _ => .stuck) L
  | _ => .stuck
theorem OwA.append {tg : Tg} {K : PySem.W.Frag} {mg : Str → Option Value} {F H : Hp} : ∀ {vs ws : List V} {os ps : List O} {A B : List Addr}, OwA tg K mg F H vs os A → OwA tg K mg F H ws ps B → OwA tg K mg F H (vs ++ ws) (os ++ ps) (A ++ B)
  | _, _, _, _, _, _, .nil, s => s
  | _, _, _, _, _, _, .cons r t, s => by rw [List.append_assoc]; exact .cons r (OwA.append t s)
theorem OwA.length {tg : Tg} {K : PySem.W.Frag} {mg : Str → Option Value} {F H : Hp} : ∀ {vs : List V} {os : List O} {A : List Addr}, OwA tg K mg F H vs os A → vs.length = os.length
  | _, _, _, .nil => rfl
  | _, _, _, .cons _ t => congrArg (· + 1) (OwA.length t)
def mthB (Γ : Gm) (i : Nat) (x : Str) (e : Expr) (apos cpos : Pos) : Bool := varB Γ i x && nst e && (apos.endLine == cpos.line)
theorem few1 {e : Expr} {X : Cx} {cpos : Pos} (h : nst e = true) : ((backTo cpos (starEach (e :: []) X.env)).all (fun x => !x.1) && (backToKw cpos (keywordEach [] X.env)).all (fun x => x.1.isSome)
    && decide ((e :: ([] : List Expr)).length + ([] : List Keyword).length + (if ([] : List Keyword).isEmpty then 0 else 1) < 30)) = true := by
  rw [star1 h]; rfl
theorem cs_app {i : Nat} {x : Str} {e : Expr} {m : Sl → R O} {p apos cpos pos : Pos} (hb : mthB Γ i x e apos cpos = true) (he : CO G Γ e m) : CS G Γ (.Expr (.Call (.Attribute (.Name x p) "append" apos) [e] [] cpos) pos) (sApp i m) := by
  unfold mthB at hb
  obtain ⟨hb, hl⟩ := and2 hb
  obtain ⟨hb, hn⟩ := and2 hb
  unfold varB at hb
  obtain ⟨h1, h4⟩ := and2 hb
  obtain ⟨h1, h3⟩ := and2 h1
  obtain ⟨h1, h2⟩ := and2 h1
  refine fun X ok W tk => PS.imp (ps_expr (pe_bm PySem.F.plainAttrs_list PySem.F.slot_list_append PySem.F.type_list_append mt_append
    (pe_var (i := i) (by rw [ok.N]; exact of_decide_eq_true h1) (by rw [ok.sc]; exact vis_of h2) (by simpa using h3) (by simpa using h4)) (pa_cons (he X ok W tk) pa_nil (star_cons hn)) (attr_base rfl _ _ _) (few1 hn) hl (star_cons hn) (star_any (es := []) rfl)) (sw_none rfl _ _ _)) fun D σ H h => ?_
  obtain ⟨B, F0, L, F, A, R, h⟩ := h
  unfold sApp at h
  split at h
  · rename_i os0 e0
    obtain ⟨v0, Ai0, g1, g2, _⟩ := R.mut e0
    cases g2 with
    | @ml a us _ A' hH ra =>
      refine ⟨_, g1, .inl ⟨rfl, _, .inl (.inl hH)⟩, B, F0, L, F, A, R, (pS.first R h).imp R fun o F1 H1 s1 R1 gr1 hc v C ow nC fC => ?_⟩
      rw [e0] at hc
      dsimp only at hc
      split at hc
      · rename_i hz
        obtain ⟨v1, Ai, k1, k2, k3, k4, k5⟩ := R1.mut e0
        rw [g1] at k1; cases k1
        cases k2 with
        | @ml _ us1 _ A1 hH1 ra1 =>
          refine ⟨a, us1, v, rfl, rfl, hH1, by rw [ra1.length]; exact hz, ?_⟩
          have fresh : ∀ c ∈ C, c ∉ A := fun c hc m => by
            obtain ⟨u, e⟩ := R.os.tracked c m
            rw [(fC c hc).2] at e; cases e
          have haA := k3 a List.mem_cons_self
          obtain ⟨A2, R2⟩ := k5 (upd H1 a (.lst (us1 ++ [v]))) (.ml (os0 ++ [o])) (a :: (A1 ++ (C ++ []))) rfl
            (fun x hx _ => upd_ne (fun z => hx (by rw [z]; exact List.mem_cons_self)))
            (.ml upd_same (OwA.append (OwA.mono (.refl _) (fun x m => upd_ne (fun z => (List.nodup_cons.mp k4).1 (z ▸ m))) ra1) (.cons (Ow.mono (.refl _) (fun x m => upd_ne (fun z => fresh x m (z ▸ haA))) ow) .nil)))
            (by
              rw [List.append_nil]
              obtain ⟨q1, q2⟩ := List.nodup_cons.mp k4
              refine List.nodup_cons.mpr ⟨fun m => ?_, List.nodup_append.mpr ⟨q2, nC, fun x hx y hy z => fresh y hy (z ▸ k3 x (List.mem_cons_of_mem _ hx))⟩⟩
              rcases List.mem_append.mp m with m | m
              · exact q1 m
              · exact fresh a m haA)
            (fun x m => by
              rcases List.mem_cons.mp m with rfl | m
              · exact .inl List.mem_cons_self
              rw [List.append_nil] at m
              rcases List.mem_append.mp m with m | m
              · exact .inl (List.mem_cons_of_mem _ m)
              · exact .inr ⟨(fC x m).1, R.sb.free (fC x m).2, fresh x m⟩)
          exact hc _ _ ⟨F1, A2, .refl _, R2⟩
      · exact hc.elim
  · exact h.elim
theorem OwA.reverse {tg : Tg} {K : PySem.W.Frag} {mg : Str → Option Value} {F H : Hp} : ∀ {vs : List V} {os : List O} {A : List Addr}, OwA tg K mg F H vs os A → ∃ B, OwA tg K mg F H vs.reverse os.reverse B ∧ (∀ a, a ∈ B ↔ a ∈ A) ∧ (A.Nodup → B.Nodup)
  | _, _, _, .nil => ⟨[], .nil, fun _ => Iff.rfl, id⟩
  | _, _, _, .cons (v := v) (o := o) (A := A) (B := B) r t => by
    obtain ⟨C, h1, h2, h3⟩ := OwA.reverse t
    refine ⟨C ++ (A ++ []), by rw [List.reverse_cons, List.reverse_cons]; exact h1.append (.cons r .nil), fun a => by simp [h2]; exact Or.comm, fun n => ?_⟩
    obtain ⟨n1, n2, n3⟩ := List.nodup_append.mp n
    rw [List.append_nil]
    exact List.nodup_append.mpr ⟨h3 n2, n1, fun x hx y hy z => n3 y hy x ((h2 x).mp hx) z.symm⟩
def sM0 (i : Nat) (f : List O → List O) : Sl → RS := fun L => match L[i]? with
  | some (some (.ml os)) => .next (L.set i (some (.ml (f os))))
  | _ => .stuck
def sExt (i : Nat) (m : Sl → R O) : Sl → RS := fun L => match L[i]? with
  | some (some (.ml _)) => sBind m (fun o L => match L[i]?, o with | some (some (.ml os)), .ml ps => if os.length + ps.length ≤ sizeLine then .next (L.set i (some (.ml (os ++ ps)))) else .stuck | _, _ => .stuck) L
  | _ => .stuck
end
end Eng
end
section
set_option Elab.async false
set_option linter.all false
set_option maxRecDepth 100000
set_option maxHeartbeats 4000000
namespace Eng
open PySem PySem.Spec PyProof.Rows L2
section
variable {G : Gd} {Γ : Gm} {W : WX} {B : Bd} {F0 F H : Hp} {L : Sl} {A : List Addr} {σ : L2.St}
def lookF : List (Str × D) → Str → Option D
  | [], _ => none
  | (g, d) :: r, f => if f = g then some d else lookF r f
theorem RpF.look {K : PySem.W.Frag} {mg : Str → Option Value} {F : Hp} {f : Str} : ∀ {vs : List (Str × V)} {ds : List (Str × D)} {d : D}, RpF K mg F vs ds → lookF ds f = some d → ∃ v, vs.lookup f = some v ∧ Rp K mg F v d
  | _, _, _, .nil, h => by cases h
  | _, _, d, .cons (x := x) (v := v) r t, h => by
    unfold lookF at h
    by_cases e : f = x
    · rw [if_pos e] at h; cases h
      exact ⟨v, by simp [List.lookup, e], r⟩
    · rw [if_neg e] at h
      obtain ⟨w, h1, h2⟩ := RpF.look t h
      refine ⟨w, ?_, h2⟩
      rw [List.lookup_cons]
      have : (f == x) = false := by simpa using e
      rw [this]; exact h1
def putFO (f : Str) (o : O) : List (Str × O) → List (Str × O)
  | [] => [(f, o)]
  | (g, x) :: r => if g = f then (g, o) :: r else (g, x) :: putFO f o r
theorem OwF.put {tg : Tg} {K : PySem.W.Frag} {mg : Str → Option Value} {F H : Hp} {f : Str} {v : V} {o : O} {C : List Addr} (r : Ow tg K mg F H v o C) : ∀ {fs : List (Str × V)} {os : List (Str × O)} {A : List Addr}, OwF tg K mg F H fs os A →
    ∃ A', OwF tg K mg F H (putF f v fs) (putFO f o os) A' ∧ (∀ a ∈ A', a ∈ A ∨ a ∈ C) ∧ (A.Nodup → C.Nodup → (∀ a ∈ C, a ∉ A) → A'.Nodup)
  | _, _, _, .nil => ⟨C ++ [], .cons r .nil, fun a m => .inr (by simpa using m), fun _ n _ => by simpa using n⟩
  | _, _, _, .cons (x := x) (A := A) (B := B) q t => by
    unfold putF putFO
    by_cases e : x = f
    · rw [if_pos e, if_pos e]
      refine ⟨C ++ B, .cons r t, fun a m => ?_, fun n n' d => ?_⟩
      · rcases List.mem_append.mp m with m | m
        · exact .inr m
        · exact .inl (List.mem_append_right _ m)
      · exact List.nodup_append.mpr ⟨n', (List.nodup_append.mp n).2.1, fun a ha b hb z => d a ha (List.mem_append_right _ (z ▸ hb))⟩
    · rw [if_neg e, if_neg e]
      obtain ⟨A', h1, h2, h3⟩ := OwF.put r t
      refine ⟨A ++ A', .cons q h1, fun a m => ?_, fun n n' d => ?_⟩
      · rcases List.mem_append.mp m with m | m
        · exact .inl (List.mem_append_left _ m)
        · exact (h2 a m).imp (List.mem_append_right _) id
      · obtain ⟨m1, m2, m3⟩ := List.nodup_append.mp n
        refine List.nodup_append.mpr ⟨m1, h3 m2 n' (fun a ha z => d a ha (List.mem_append_right _ z)), fun a ha b hb z => ?_⟩
        rcases h2 b hb with w | w
        · exact m3 a ha b w z
        · exact d b w (List.mem_append_left _ (z ▸ ha))
theorem OwF.length {tg : Tg} {K : PySem.W.Frag} {mg : Str → Option Value} {F H : Hp} : ∀ {vs : List (Str × V)} {os : List (Str × O)} {A : List Addr}, OwF tg K mg F H vs os A → vs.length = os.length
  | _, _, _, .nil => rfl
  | _, _, _, .cons _ t => congrArg (· + 1) (OwF.length t)
def sFSet (i : Nat) (cs : List Str) (f : Str) (m : Sl → R O) : Sl → RS := sBind m fun o L => match L[i]? with
  | some (some (.mi p c fs)) => if c ∈ cs ∧ fs.length < 1000 then .next (L.set i (some (.mi p c (putFO f o fs)))) else .stuck
  | _ => .stuck
def outI : Sl → R O
  | some (O.mi true c fs) :: _ => .ok (.mi false c fs)
  | _ => .stuck
theorem outI_ok {L : Sl} {o : O} (h : outI L = .ok o) : ∃ c fs L', L = some (O.mi true c fs) :: L' ∧ o = .mi false c fs := by
  unfold outI at h
  split at h
  · cases h; exact ⟨_, _, _, rfl, rfl⟩
  · cases h
theorem outI_exc {L : Sl} {c : Str} (h : outI L = .exc c) : False := by
  unfold outI at h
  split at h <;> cases h
def slI (n : Nat) (c : Str) (ds : List D) : Sl := some (.mi true c []) :: sl0 (n - 1) ds
def runI (n : Nat) (c : Str) (m : Sl → RS) (ar : Nat) (ds : List D) : R O := if ds.length = ar then (match m (slI n c ds) with
  | .next L => outI L
  | .exc c _ => .exc c
  | _ => .stuck) else .stuck
theorem initok_of {Γ : Gm} {c qual : Str} {st : Stmt} {f C : Addr} {fd : FuncData} {ps : List Str} {m : Sl → RS} {k ar : Nat} (F : Fun G.K "__init__" qual st f fd) (S : FnScope Γ.N ps (defScope st)) (hsc : Γ.sc = defScope st) (hn : 1 ≤ Γ.N.length) (hps : ps.length = ar + 1)
    (hC : G.mg c = some (.ref C)) (hk : Γ.k = k) (cs : CSs G Γ (defBody st) m) (hlq : Γ.lq = none := by rfl) : FnOk G.P G.w G.K G.mg G.base (L2.CX G.P G.w) (k + 1) f fd ps (spI G C (runI Γ.N.length c m ar)) := by
  subst hk
  refine F.okX S (fun vs H Q E h => ?_) (fun cdv A outer s H vs Q E hr h => ?_)
  · obtain ⟨x, dx, us, ds, F0, H0, rfl, rfl, hx, hdx, hne, s0, tb, r, h⟩ := h
    rw [List.length_cons, r.length]
    by_cases e : ds.length = ar
    · rw [e, hps]
    · have z : runI Γ.N.length c m ar ds = .stuck := if_neg e
      rw [z] at h; exact h.elim
  · obtain ⟨x, dx, us, ds, F0, H0, rfl, rfl, hx, hdx, hne, s0, tb, r, h⟩ := h
    have hlen : ds.length = ar := by
      by_cases e : ds.length = ar
      · exact e
      · have z : runI Γ.N.length c m ar ds = .stuck := if_neg e
        rw [z] at h; exact h.elim
    have hrun : runI Γ.N.length c m ar ds = (match m (slI Γ.N.length c ds) with
      | .next L => outI L
      | .exc c _ => .exc c
      | _ => .stuck) := if_pos hlen
    rw [hrun] at h
    have sH : Same H0 (upd (upd H0 dx (.own x)) x (.ins C dx [])) := fun a u e => by
      rw [upd_ne (ne_of_none e hx), upd_ne (ne_of_none e hdx)]; exact e
    have sB : Same H0 (fun a => if a = x then none else upd (upd H0 dx (.own x)) x (.ins C dx []) a) := fun a u e => by
      show (if a = x then none else _) = some u
      rw [if_neg (ne_of_none e hx)]; exact sH _ _ e
    have sBH : Same (fun a => if a = x then none else upd (upd H0 dx (.own x)) x (.ins C dx []) a) (upd (upd H0 dx (.own x)) x (.ins C dx [])) := fun a u e => by
      dsimp only at e
      split at e
      · cases e
      · exact e
    refine ⟨tS G (fun cls d _ H' => E cls d H') m, cs _ ⟨rfl, rfl, rfl, rfl, rfl, rfl, S.nd, hsc.symm, S.kind, fun _ => rfl, fun _ => hr, un_of hr, passes_of rfl, fun _ _ => .inl rfl, fun _ => ⟨rfl, rfl⟩, fun q e => by rw [hlq] at e; cases e⟩ _ (takes_of rfl rfl rfl rfl), ?_⟩
    refine ⟨⟨fun a => if a = x then none else upd (upd H0 dx (.own x)) x (.ins C dx []) a, [(0, x)]⟩, F0, slI Γ.N.length c ds, F0, [x], ⟨?_, by simp, s0.trans sH, .refl _, ⟨.of sBH, tb.t.ext sB, tb.f⟩, fun _ e _ => e, fun a m => ?_, fun q m => ?_⟩, ?_⟩
    · unfold L2.start slI
      rw [List.map_cons, List.cons_append]
      refine OwS.some (A := [x]) (B := []) (.mi upd_same hC .nil) ?_
      unfold sl0
      rw [List.length_cons, r.length, show Γ.N.length - (ds.length + 1) = Γ.N.length - 1 - ds.length by omega]
      exact ow0 r
    · rw [List.mem_singleton.mp m]
      exact ⟨s0.free hx, if_pos rfl⟩
    · rw [List.mem_singleton.mp m]
      exact ⟨rfl, rfl⟩
    · cases e : m (slI Γ.N.length c ds) with
      | next L =>
        rw [e] at h
        rintro σ' H' ⟨F', A', s', R'⟩
        dsimp only at h
        cases eo : outI L with
        | stuck => rw [eo] at h; exact h.elim
        | exc c => exact (outI_exc eo).elim
        | ok o =>
          rw [eo] at h
          obtain ⟨c', fs, L', rfl, rfl⟩ := outI_ok eo
          obtain ⟨v, A1, Ai, A2, h1, h2, h3, h4⟩ := R'.os.take (i := 0) rfl
          obtain ⟨h5, _⟩ := R'.pn (0, x) (by simp)
          rw [h1] at h5; cases h5
          have nd := R'.nd
          rw [h3] at nd
          have n2 := (List.nodup_append.mp (List.nodup_append.mp nd).1).2.1
          cases h2 with
          | mi q1 q2 q3 =>
            refine h H' ⟨F', _, s', R'.sf, (Kp.of sB).trans R'.sb.kp, fun a z n => R'.fb a z (nt_mono (Kp.of (G := G) sB) n), .mi q1 q2 q3, n2, fun a m => ?_⟩
            · obtain ⟨z1, z2⟩ := R'.fa a (by rw [h3]; exact List.mem_append_left _ (List.mem_append_right _ m))
              exact ⟨z1, sB.free z2⟩
      | exc c L =>
        rw [e] at h
        obtain ⟨C, eC, h⟩ := h
        exact ⟨C, eC, fun σ' H' ⟨F', A', s', R'⟩ => h H' ((Kp.of sB).trans R'.sb.kp) (R'.f0.trans R'.sf)⟩
      | ret o L => rw [e] at h; exact h.elim
      | brk L => rw [e] at h; exact h.elim
      | cont L => rw [e] at h; exact h.elim
      | stuck => rw [e] at h; exact h.elim
end
end Eng
end
section
set_option Elab.async false
set_option linter.all false
set_option maxRecDepth 100000
set_option maxHeartbeats 4000000
namespace Eng
open PySem PySem.Spec PyProof.Rows L2
section
variable {G : Gd} {Γ : Gm}
def rVO (G : Gd) (f : List D → Option O) : List V → Hp → VK → Prop := fun vs H Q => ∃ F ds o, Same F H ∧ RpA G.K G.mg F vs ds ∧ f ds = some o ∧ ∀ v C F' H', Grow G F H F' H' → Ow G.tg G.K G.mg F' H' v o C → C.Nodup → (∀ a ∈ C, F' a = none ∧ H a = none) → Q v H'
def BltO (G : Gd) (f : List D → Option O) (u : Value) : Prop := ∀ (X : Cx) (Γ : Gm), Γ.Ok G X → X.calm = true → CallR X u (rVO G f)
def mFO (f : List D → Option O) (m : Sl → R (List D)) : Sl → R O := fun L => (m L).bind fun ds => lift (f ds)
theorem argsO {f : List D → Option O} {m : Sl → R (List D)} {W : WX} {σ : L2.St} {H : Hp} {Q : VK} (h : tO G W (mFO f m) σ H Q) : tCB (rVO G f) (tA G W m) σ H Q := by
  obtain ⟨B, F0, L, F, A, R, h⟩ := h
  refine ⟨B, F0, L, F, A, R, (pG.bind h).imp R fun ds F1 H1 s1 R1 g1 h1 vs rv => ?_⟩
  cases e : f ds with
  | none => rw [e] at h1; exact h1.elim
  | some d =>
    rw [e] at h1
    exact ⟨F1, ds, d, R1.sf, rv, e, fun v C F' H' g ow nC fC => h1 F' H' g v C ow nC fun a m => ⟨(fC a m).1, g1.sH.free (fC a m).2⟩⟩
theorem co_tn (gr : Γ.Gr G) {f : List D → Option O} {x : Str} {id : String} {a : Expr} {es : List Expr} {m : Sl → R (List D)} {p pos : Pos} (hc : BltO G f (.type id)) (hv : bootBuiltins x = some (.type id)) (h : bltB Γ x a es = true) (ha : CA G Γ (a :: es) m) :
    CO G Γ (.Call (.Name x p) (a :: es) [] pos) (mFO f m) := by
  obtain ⟨h1, h2, h3, h4, h5, h6, h7⟩ := bltB_of h
  exact fun X ok W tk => PE.imp (pe_callTy (hc X Γ ok (ok.calm h7)) (gl_of ok.sc h2) (by rw [ok.mg]; exact gr.bl x h1) hv (ha X ok W tk) h5 h6 (star_cons h3) (star_any h4)) fun _ _ _ h => argsO h
theorem new_ml {F H : Hp} {vs : List V} {ds : List D} {Q : VK} {p : Addr} (sf : Same F H) (rv : RpA G.K G.mg F vs ds) (hp : H p = none)
    (h : ∀ v C F' H', Grow G F H F' H' → Ow G.tg G.K G.mg F' H' v (.ml (ds.map .v)) C → C.Nodup → (∀ a ∈ C, F' a = none ∧ H a = none) → Q v H') : Q (.ref p) (upd H p (.lst vs)) := by
  refine h (.ref p) [p] F (upd H p (.lst vs)) ⟨Kp.new hp, .refl _, fun a u e => ?_, fun _ e _ => e⟩ (.ml upd_same rv.ow) (by simp) (fun a m => by rw [List.mem_singleton.mp m]; exact ⟨sf.free hp, hp⟩)
  · rw [upd_ne (ne_of_none (sf _ _ e) hp)]; exact sf _ _ e
def fList : List D → Option O
  | [.lst ds] => some (.ml (ds.map .v))
  | [.tup ds] => some (.ml (ds.map .v))
  | _ => none
def pyOr (d : D) : PyData := d.py.getD .none
def sortD (ds : List D) : List D := ds.mergeSort (W.dataLe false pyOr)
theorem RpK.keys {K : PySem.W.Frag} {mg : Str → Option Value} {F : Hp} : ∀ {vs : List (Key × V)} {ds : List (Key × D)}, RpK K mg F vs ds → vs.map (·.1) = ds.map (·.1)
  | _, _, .nil => rfl
  | _, _, .cons _ t => by rw [List.map_cons, List.map_cons, RpK.keys t]
theorem RpT.keys {K : PySem.W.Frag} {mg : Str → Option Value} {F : Hp} : ∀ {vs : List (List Key × V)} {ds : List (List Key × D)}, RpT K mg F vs ds → vs.map (·.1) = ds.map (·.1)
  | _, _, .nil => rfl
  | _, _, .cons _ t => by rw [List.map_cons, List.map_cons, RpT.keys t]
end
end Eng
end
section
set_option Elab.async false
set_option linter.all false
set_option maxRecDepth 100000
set_option maxHeartbeats 4000000
namespace Eng
open PySem PySem.Spec PyProof.Rows L2
section
variable {G : Gd} {Γ : Gm} {W : WX} {B : Bd} {F0 F H : Hp} {L : Sl} {A : List Addr} {σ : L2.St}
def putO {κ : Type} [DecidableEq κ] (os : List (κ × O)) (k : κ) (o : O) : List (κ × O) := if (os.any fun kv => decide (kv.1 = k)) = true then os.map (fun kv => if kv.1 = k then (kv.1, o) else kv) else os ++ [(k, o)]
section
variable {tg : Tg} {K : PySem.W.Frag} {mg : Str → Option Value}
theorem OwK.keys : ∀ {vs : List (Key × V)} {os : List (Key × O)} {A : List Addr}, OwK tg K mg F H vs os A → vs.map (·.1) = os.map (·.1)
  | _, _, _, .nil => rfl
  | _, _, _, .cons _ t => by rw [List.map_cons, List.map_cons, OwK.keys t]
theorem OwT.keys : ∀ {vs : List (List Key × V)} {os : List (List Key × O)} {A : List Addr}, OwT tg K mg F H vs os A → vs.map (·.1) = os.map (·.1)
  | _, _, _, .nil => rfl
  | _, _, _, .cons _ t => by rw [List.map_cons, List.map_cons, OwT.keys t]
theorem any_fst {κ α β : Type} [DecidableEq κ] {k : κ} {xs : List (κ × α)} {ys : List (κ × β)} (h : xs.map (·.1) = ys.map (·.1)) : (xs.any fun kv => decide (kv.1 = k)) = ys.any fun kv => decide (kv.1 = k) := by
  have e1 : (xs.any fun kv => decide (kv.1 = k)) = (xs.map (·.1)).any fun x => decide (x = k) := by rw [List.any_map]; rfl
  have e2 : (ys.any fun kv => decide (kv.1 = k)) = (ys.map (·.1)).any fun x => decide (x = k) := by rw [List.any_map]; rfl
  rw [e1, e2, h]
theorem OwK.map {k : Key} {v : V} {d : D} (r : Rp K mg F v d) : ∀ {vs : List (Key × V)} {os : List (Key × O)} {A : List Addr}, OwK tg K mg F H vs os A →
    ∃ A', OwK tg K mg F H (vs.map fun kv => if kv.1 = k then (kv.1, v) else kv) (os.map fun kv => if kv.1 = k then (kv.1, .v d) else kv) A' ∧ A'.Sublist A
  | _, _, _, .nil => ⟨[], .nil, List.Sublist.refl _⟩
  | _, _, _, .cons (x := x) (A := A1) (B := A2) q t => by
    obtain ⟨A', h1, h2⟩ := OwK.map r t
    by_cases e : x = k
    · refine ⟨[] ++ A', ?_, (List.nil_append A' ▸ h2.trans (List.sublist_append_right _ _))⟩
      rw [List.map_cons, List.map_cons, if_pos e, if_pos e]
      exact .cons (.v r) h1
    · refine ⟨A1 ++ A', ?_, (List.Sublist.refl _).append h2⟩
      rw [List.map_cons, List.map_cons, if_neg e, if_neg e]
      exact .cons q h1
theorem OwT.map {k : List Key} {v : V} {d : D} (r : Rp K mg F v d) : ∀ {vs : List (List Key × V)} {os : List (List Key × O)} {A : List Addr}, OwT tg K mg F H vs os A →
    ∃ A', OwT tg K mg F H (vs.map fun kv => if kv.1 = k then (kv.1, v) else kv) (os.map fun kv => if kv.1 = k then (kv.1, .v d) else kv) A' ∧ A'.Sublist A
  | _, _, _, .nil => ⟨[], .nil, List.Sublist.refl _⟩
  | _, _, _, .cons (x := x) (A := A1) (B := A2) q t => by
    obtain ⟨A', h1, h2⟩ := OwT.map r t
    by_cases e : x = k
    · refine ⟨[] ++ A', ?_, (List.nil_append A' ▸ h2.trans (List.sublist_append_right _ _))⟩
      rw [List.map_cons, List.map_cons, if_pos e, if_pos e]
      exact .cons (.v r) h1
    · refine ⟨A1 ++ A', ?_, (List.Sublist.refl _).append h2⟩
      rw [List.map_cons, List.map_cons, if_neg e, if_neg e]
      exact .cons q h1
theorem OwK.snoc {k : Key} {v : V} {d : D} (r : Rp K mg F v d) : ∀ {vs : List (Key × V)} {os : List (Key × O)} {A : List Addr}, OwK tg K mg F H vs os A → OwK tg K mg F H (vs ++ [(k, v)]) (os ++ [(k, .v d)]) A
  | _, _, _, .nil => OwK.cons (A := []) (B := []) (.v r) .nil
  | _, _, _, .cons q t => .cons q (OwK.snoc r t)
theorem OwT.snoc {k : List Key} {v : V} {d : D} (r : Rp K mg F v d) : ∀ {vs : List (List Key × V)} {os : List (List Key × O)} {A : List Addr}, OwT tg K mg F H vs os A → OwT tg K mg F H (vs ++ [(k, v)]) (os ++ [(k, .v d)]) A
  | _, _, _, .nil => OwT.cons (A := []) (B := []) (.v r) .nil
  | _, _, _, .cons q t => .cons q (OwT.snoc r t)
theorem OwK.put {k : Key} {v : V} {d : D} (r : Rp K mg F v d) {vs : List (Key × V)} {os : List (Key × O)} {A : List Addr} (h : OwK tg K mg F H vs os A) : ∃ A', OwK tg K mg F H (putK vs k v) (putO os k (.v d)) A' ∧ A'.Sublist A := by
  unfold putK putO
  rw [any_fst h.keys]
  split
  · exact h.map r
  · exact ⟨A, h.snoc r, List.Sublist.refl _⟩
theorem OwT.put {k : List Key} {v : V} {d : D} (r : Rp K mg F v d) {vs : List (List Key × V)} {os : List (List Key × O)} {A : List Addr} (h : OwT tg K mg F H vs os A) : ∃ A', OwT tg K mg F H (putK vs k v) (putO os k (.v d)) A' ∧ A'.Sublist A := by
  unfold putK putO
  rw [any_fst h.keys]
  split
  · exact h.map r
  · exact ⟨A, h.snoc r, List.Sublist.refl _⟩
theorem OwK.length {vs : List (Key × V)} {os : List (Key × O)} {A : List Addr} (h : OwK tg K mg F H vs os A) : vs.length = os.length := by
  have := congrArg List.length h.keys
  simpa using this
theorem OwT.length {vs : List (List Key × V)} {os : List (List Key × O)} {A : List Addr} (h : OwT tg K mg F H vs os A) : vs.length = os.length := by
  have := congrArg List.length h.keys
  simpa using this
end
def dput (o : O) (k v : D) : Option O := match o with
  | .mk os => (keyD k).bind fun j => if os.length < sizeLine then some (.mk (putO os j (.v v))) else none
  | .mq os => match k with | .tup ks => (keysD ks).bind fun j => if os.length < sizeLine then some (.mq (putO os j (.v v))) else none | _ => none
  | _ => none
def sPut (i : Nat) (mk mv : Sl → R D) : Sl → RS := sBind mv fun v L => match L[i]? with
  | some (some o) => sBind mk (fun k L => match dput o k v with | some o' => .next (L.set i (some o')) | none => .stuck) L
  | _ => .stuck
def isDct : D → Bool | .dk _ => true | .dt _ => true | _ => false
def mGet1 (a k : Sl → R D) : Sl → R D := fun L => (a L).bind fun d => if isDct d = true then (k L).bind fun y => lift ((getD? d y).map fun o => o.getD .non) else .stuck
def mGet2 (a k x : Sl → R D) : Sl → R D := fun L => (a L).bind fun d => if isDct d = true then (k L).bind fun y => (x L).bind fun z => lift ((getD? d y).map fun o => o.getD z) else .stuck
def sAug (i : Nat) (f : D → D → Option D) (m : Sl → R D) : Sl → RS := fun L => match L[i]? with
  | some (some (.v x)) => sBind m (fun y L => match f x y with | some z => if okSet L i = true then .next (L.set i (some (.v z))) else .stuck | none => .stuck) L
  | _ => .stuck
def sPar (i j : Nat) (a b : Sl → R D) : Sl → RS := sBind a fun x => sBind b fun y L => if okSet L i = true ∧ okSet L j = true then .next ((L.set i (some (.v x))).set j (some (.v y))) else .stuck
def fRep : D → D → Option D
  | .tup ds, .int k => if ds ≠ [] ∧ 2 ≤ k ∧ k ≤ 1000 ∧ ds.length ≤ 1000 then some (.tup (List.replicate k.toNat ds).flatten) else none
  | _, _ => none
theorem RpA.rep {K : PySem.W.Frag} {mg : Str → Option Value} {F : Hp} {vs : List V} {ds : List D} (r : RpA K mg F vs ds) : ∀ n : Nat, RpA K mg F (List.replicate n vs).flatten (List.replicate n ds).flatten
  | 0 => .nil
  | n + 1 => by rw [List.replicate_succ, List.replicate_succ, List.flatten_cons, List.flatten_cons]; exact r.append (RpA.rep r n)
def fStr : List D → Option D
  | [.int i] => if i.natAbs.log2 < 1920 then some (.str (toString i)) else none
  | _ => none
theorem b_str : Blt G fStr (.type "str") := by
  intro X Γ ok cl pins s σ H xs us Q I r h
  obtain ⟨F, ds, d, sf, hr, e, h⟩ := h
  unfold fStr at e
  split at e
  · split at e
    · rename_i hm
      cases e
      cases hr with
      | cons r1 r2 => cases r2; cases r1; exact call_str_int pins s σ H _ us Q I r ⟨_, rfl, hm, h _ F H (.refl sf) (.str _)⟩
    · cases e
  · cases e
def fIntS : List D → Option D
  | [.str a] => if a.length ≤ 640 then (PySem.intText? a).map .int else none
  | [.int i] => some (.int i)
  | [.bl b] => some (.int (if b then 1 else 0))
  | _ => none
theorem b_intS : Blt G fIntS (.type "int") := by
  intro X Γ ok cl pins s σ H xs us Q I r h
  obtain ⟨F, ds, d, sf, hr, e, h⟩ := h
  unfold fIntS at e
  split at e
  · split at e
    · rename_i hm
      obtain ⟨n, e1, rfl⟩ := map_some e
      cases hr with
      | cons r1 r2 => cases r2; cases r1; exact call_int_str pins s σ H _ us Q I r ⟨_, n, rfl, e1, hm, h _ F H (.refl sf) (.int _)⟩
    · cases e
  · cases e
    cases hr with
    | cons r1 r2 => cases r2; cases r1; exact call_int1 pins s σ H _ us Q I r (.inl ⟨_, rfl, h _ F H (.refl sf) (.int _)⟩)
  · cases e
    cases hr with
    | cons r1 r2 => cases r2; cases r1; exact call_int1 pins s σ H _ us Q I r (.inr ⟨_, rfl, h _ F H (.refl sf) (.int _)⟩)
  · cases e
def rM1O (G : Gd) (f : D → D → Option O) : V → List V → Hp → VK → Prop := fun x xs H Q => ∃ y F dx dy o, xs = [y] ∧ Same F H ∧ Rp G.K G.mg F x dx ∧ Rp G.K G.mg F y dy ∧ f dx dy = some o ∧ ∀ v C F' H', Grow G F H F' H' → Ow G.tg G.K G.mg F' H' v o C → C.Nodup → (∀ a ∈ C, F' a = none ∧ H a = none) → Q v H'
def mS1O (f : D → D → Option O) (a b : Sl → R D) : Sl → R O := fun L => (a L).bind fun x => (lift (asS x)).bind fun _ => (b L).bind fun y => lift (f x y)
theorem co_s1 {id : String} {name : Str} {f : D → D → Option O} {o e : Expr} {ma mb : Sl → R D} {apos pos : Pos} (slot : Slot "str" name id) (ty : typeOf (.builtin id) = pure (.type "method_descriptor")) (rule : ∀ (X : Cx) (Γ : Gm), Γ.Ok G X → MtR X id (rM1O G f))
    (hc : (attrB o && (apos.endLine == pos.line) && nst e) = true) (ho : CE G Γ o ma) (he : CE G Γ e mb) : CO G Γ (.Call (.Attribute o name apos) [e] [] pos) (mS1O f ma mb) := by
  obtain ⟨hc, hs⟩ := and2 hc
  obtain ⟨ha, hl⟩ := and2 hc
  refine fun X ok W tk => PE.imp (pe_m1 slot ty (rule X Γ ok) (ho X ok W tk) (he X ok W tk) (star1 hs) (attr_base ha _ _ _) hl) fun σ H Q h => ?_
  obtain ⟨B, F0, L, F, A, R, h⟩ := h
  refine ⟨B, F0, L, F, A, R, (pG.bind h).imp R fun d F1 H1 s1 R1 g1 h1 v rv => ?_⟩
  cases ed : asS d with
  | none => rw [ed] at h1; exact h1.elim
  | some z =>
    rw [ed] at h1
    have h1 : pG G W σ F1 H1 ((mb L).bind fun y => lift (f d y)) (fun o F' H' => ∀ v C, Ow G.tg G.K G.mg F' H' v o C → C.Nodup → (∀ a ∈ C, F' a = none ∧ H a = none) → Q v H') := h1
    refine ⟨⟨z, rv.str_inv ed⟩, B, F0, L, F1, A, R1, (pG.bind h1).imp R1 fun d2 F2 H2 s2 R2 g2 h2 v2 rv2 => ?_⟩
    cases e2 : f d d2 with
    | none => rw [e2] at h2; exact h2.elim
    | some r =>
      rw [e2] at h2
      exact ⟨v2, F2, d, d2, r, rfl, R2.sf, rv.mono s2, rv2, e2, fun v C F' H' g ow nC fC => h2 F' H' g v C ow nC fun a m => ⟨(fC a m).1, g1.sH.free (g2.sH.free (fC a m).2)⟩⟩
def fSplit : D → D → Option O
  | .str a, .str b => if b.length ≠ 0 ∧ a.length + 2 ≤ sizeLine then some (.ml ((Txt.split a b).map fun z => .v (.str z))) else none
  | _, _ => none
theorem strs_rp {F : Hp} : ∀ zs : List Str, RpA G.K G.mg F (zs.map V.str) (zs.map D.str)
  | [] => .nil
  | _ :: r => .cons (.str _) (strs_rp r)
theorem m_split (X : Cx) (Γ : Gm) (ok : Γ.Ok G X) : MtR X "str.split" (rM1O G fSplit) := by
  intro pins s σ H x xs v us Q I rx rs h
  obtain ⟨y, F, dx, dy, o, rfl, sf, hx, hy, e, h⟩ := h
  unfold fSplit at e
  split at e
  · split at e
    · rename_i a b hm
      cases e; cases hx; cases hy
      refine mt_split pins s σ H _ _ v us Q I rx rs ⟨a, b, rfl, rfl, by simpa using hm.1, hm.2, fun p hp => ?_⟩
      refine new_ml (G := G) sf (strs_rp (Txt.split a b)) hp ?_
      rw [List.map_map]
      exact h
    · cases e
  · cases e
theorem co_split {o e : Expr} {ma mb : Sl → R D} {apos pos : Pos} (hc : (attrB o && (apos.endLine == pos.line) && nst e) = true) (ho : CE G Γ o ma) (he : CE G Γ e mb) : CO G Γ (.Call (.Attribute o "split" apos) [e] [] pos) (mS1O fSplit ma mb) :=
  co_s1 F.slot_str_split F.type_str_split m_split hc ho he
def pairsD : List D → Option (List (Key × D))
  | [] => some []
  | .tup [k, v] :: ds => (keyD k).bind fun j => (pairsD ds).map ((j, v) :: ·)
  | _ => none
end
end Eng
end
section
set_option Elab.async false
set_option linter.all false
set_option maxRecDepth 100000
set_option maxHeartbeats 4000000
namespace Eng
open PySem PySem.Spec PyProof.Rows L2
section
variable {G : Gd} {Γ : Gm}
def mV (m : Sl → R D) : Sl → R O := fun L => (m L).bind fun d => .ok (.v d)
theorem RpK.map {K : PySem.W.Frag} {mg : Str → Option Value} {F : Hp} {k : Key} {v : V} {d : D} (r : Rp K mg F v d) : ∀ {vs : List (Key × V)} {os : List (Key × D)}, RpK K mg F vs os →
    RpK K mg F (vs.map fun kv => if kv.1 = k then (kv.1, v) else kv) (os.map fun kv => if kv.1 = k then (kv.1, d) else kv)
  | _, _, .nil => .nil
  | _, _, .cons (x := x) q t => by
    rw [List.map_cons, List.map_cons]
    by_cases e : x = k
    · rw [if_pos e, if_pos e]; exact .cons r (RpK.map r t)
    · rw [if_neg e, if_neg e]; exact .cons q (RpK.map r t)
theorem RpK.snoc {K : PySem.W.Frag} {mg : Str → Option Value} {F : Hp} {k : Key} {v : V} {d : D} (r : Rp K mg F v d) : ∀ {vs : List (Key × V)} {os : List (Key × D)}, RpK K mg F vs os → RpK K mg F (vs ++ [(k, v)]) (os ++ [(k, d)])
  | _, _, .nil => .cons r .nil
  | _, _, .cons q t => .cons q (RpK.snoc r t)
theorem RpK.put {K : PySem.W.Frag} {mg : Str → Option Value} {F : Hp} {k : Key} {v : V} {d : D} (r : Rp K mg F v d) {vs : List (Key × V)} {os : List (Key × D)} (q : RpK K mg F vs os) :
    RpK K mg F (putK vs k v) (if (os.any fun kv => decide (kv.1 = k)) = true then os.map (fun kv => if kv.1 = k then (kv.1, d) else kv) else os ++ [(k, d)]) := by
  have ea := any_fst (k := k) q.keys
  unfold putK
  rw [ea]
  split
  · exact RpK.map r q
  · exact RpK.snoc r q
theorem RpA.pairs {K : PySem.W.Frag} {mg : Str → Option Value} {F : Hp} : ∀ {vs : List V} {ds : List D} {kvs : List (Key × D)}, RpA K mg F vs ds → pairsD ds = some kvs →
    ∃ (ps : List Addr) (ws : List (Key × V)), vs = ps.map V.ref ∧ Paired (fun p kv => F p = some (.tup [kV kv.1, kv.2])) ps ws ∧ RpK K mg F ws kvs
  | _, _, _, .nil, e => by cases e; exact ⟨[], [], rfl, .nil, .nil⟩
  | _, _, _, .cons (d := d) (ds := ds) r t, e => by
    unfold pairsD at e
    split at e
    · rename_i h; cases h
    · rename_i k x ds' h
      cases h
      obtain ⟨j, e1, e2⟩ := bind_some e
      obtain ⟨ms, e3, rfl⟩ := map_some e2
      obtain ⟨ps, ws, rfl, h2, h3⟩ := RpA.pairs t e3
      cases r with
      | @tup a xs ds'' h4 r4 =>
        cases r4 with
        | @cons v1 _ _ _ r5 r6 => cases r6 with
          | @cons v2 _ _ _ r7 r8 => cases r8; exact ⟨a :: ps, (j, v2) :: ws, rfl, .cons (by
              rw [h4]
              cases k with
              | int i => cases e1; cases r5; rfl
              | str i => cases e1; cases r5; rfl
              | _ => cases e1) h2, .cons r7 h3⟩
    · cases e
end
end Eng
end
section
set_option Elab.async false
set_option linter.all false
set_option maxRecDepth 100000
set_option maxHeartbeats 4000000
namespace Eng
open PySem PySem.Spec PyProof.Rows L2
structure MkF (K : PySem.W.Frag) (c qual : Str) (st : Stmt) (fl : List Str) : Prop where
  ex : ∃ (C f : Addr) (oc : Value) (od an : Option Addr) (osl : Array (Option Value)) (kV doc pm cdv ct : Value), PySem.W.nsIn K mainGlobals c = some (some (.ref C)) ∧
    PySem.W.findIn K (.ref C) "__init__" = some (some (.ref f)) ∧ K.lookup f = some ⟨oc, od, .func (PySem.W.fnOf "__init__" qual (defArgs st) (defBody st) (defScope st) .none kV doc pm an cdv ct), osl⟩ ∧ PySem.W.isFn K (.ref f) = true ∧ PySem.W.keepIn K (.ref f) = true ∧ PySem.W.codeIn K cdv qual = true ∧
    PySem.W.makesIn K C = true ∧ PySem.W.keepIn K (.ref C) = true ∧ PySem.W.plainGet K C Str.empty = true ∧ PySem.W.hasDictIn K C = true ∧ PySem.W.plainOver K C = true ∧ PySem.W.findIn K (.ref C) "__setattr__" = some (some (.builtin "object.__setattr__")) ∧ ∀ g ∈ fl, NoAttr K C g
theorem MkF.cls {G : Gd} {h : Heap} {c qual : Str} {st : Stmt} {fl : List Str} (M : MkF G.K c qual st fl) (X : G.K.In h) (N : h.Ns mainGlobals G.mg) {gl : List Str} (hg : (gl.all fun g => fl.any fun f => decide (f = g)) = true) :
    ∃ C, G.mg c = some (.ref C) ∧ Cls G.K C ∧ ∀ f ∈ gl, NoAttr G.K C f := by
  obtain ⟨C, f, oc, od, an, osl, kV, doc, pm, cdv, ct, h1, h3, h2, h4, h5, h6, h7, h8, h9, h10, h11, h12, h13⟩ := M.ex
  refine ⟨C, PySem.W.mg_of X N h1, ⟨h9, h10, h11, h12⟩, fun g m => ?_⟩
  obtain ⟨x, mx, e⟩ := List.any_eq_true.mp (List.all_eq_true.mp hg g m)
  cases of_decide_eq_true e
  exact h13 _ mx
theorem MkF.mkx {G : Gd} {h : Heap} {Γ : Gm} {c qual : Str} {st : Stmt} {fl ps : List Str} {m : Sl → RS} {k ar : Nat} (M : MkF G.K c qual st fl) (X : G.K.In h) (N : h.Ns mainGlobals G.mg) (S : FnScope Γ.N ps (defScope st)) (hsc : Γ.sc = defScope st) (hn : 1 ≤ Γ.N.length) (hps : ps.length = ar + 1)
    (hb : ∀ (kV doc pm : Value) (an : Option Addr) (cdv ct : Value) (us : List Value), us.length = ps.length → bindArgs (PySem.W.fnOf "__init__" qual (defArgs st) (defBody st) (defScope st) .none kV doc pm an cdv ct) ⟨us, []⟩ = pure (ps.zip us)) (hk : Γ.k = k)
    (cs : CSs G Γ (defBody st) m) (hlq : Γ.lq = none := by rfl) : MkX G ⟨c, k + 1, ar, runI Γ.N.length c m ar⟩ := by
  obtain ⟨C, f, oc, od, an, osl, kV, doc, pm, cdv, ct, h1, h3, h2, h4, h5, h6, h7, h8, h9, h10, h11, h12, h13⟩ := M.ex
  have F := fun_mk h2 h6 h5
  exact ⟨C, f, _, ps, PySem.W.mg_of X N h1, ⟨h7, h3, h4, h8⟩, F.binds hb, initok_of F S hsc hn hps (PySem.W.mg_of X N h1) hk cs hlq⟩
structure ExF (K : PySem.W.Frag) (c : Str) : Prop where
  ex : ∃ C : Addr, PySem.W.nsIn K mainGlobals c = some (some (.ref C)) ∧ PySem.W.excIn K C [.type "ValueError", .type "Exception", .type "BaseException", .type "object"] "ValueError.__new__" = true ∧ PySem.W.keepIn K (.ref C) = true ∧
    PySem.W.subIn K (.ref C) (.type "BaseException") = some true ∧ PySem.W.typeIn K (.ref C) = some (.type "type")
theorem ExF.exc {G : Gd} {h : Heap} {c : Str} (M : ExF G.K c) (X : G.K.In h) (N : h.Ns mainGlobals G.mg) : ExcF G c := by
  obtain ⟨C, h1, h2, h3, h4, h5⟩ := M.ex
  exact ⟨C, PySem.W.mg_of X N h1, h2, h3, h4, h5⟩
end Eng
end
section
set_option Elab.async false
set_option linter.all false
set_option maxRecDepth 100000
set_option maxHeartbeats 4000000
namespace Eng
open PySem PySem.Spec PyProof.Rows L2
section
variable {G : Gd} {Γ : Gm} {W : WX} {B : Bd} {F0 F H : Hp} {L : Sl} {A : List Addr} {σ : L2.St}
theorem OwA.set {tg : Tg} {K : PySem.W.Frag} {mg : Str → Option Value} {F H : Hp} {v : V} {d : D} (r : Rp K mg F v d) : ∀ {vs : List V} {os : List O} {A : List Addr} (j : Nat), OwA tg K mg F H vs os A → ∃ A', OwA tg K mg F H (vs.set j v) (os.set j (.v d)) A' ∧ A'.Sublist A
  | _, _, _, _, .nil => ⟨[], .nil, List.Sublist.refl _⟩
  | _, _, _, 0, .cons (A := A1) (B := A2) q t => ⟨[] ++ A2, .cons (.v r) t, List.sublist_append_right _ _⟩
  | _, _, _, j + 1, .cons (A := A1) (B := A2) q t => by
    obtain ⟨A', h1, h2⟩ := OwA.set r j t
    exact ⟨A1 ++ A', .cons q h1, (List.Sublist.refl _).append h2⟩
def sSub (i : Nat) (mk mv : Sl → R D) : Sl → RS := sBind mv fun d L => match L[i]? with
  | some (some (.ml os)) => sBind mk (fun k L => match k with
    | .int n => (match ixN os.length n with | some j => .next (L.set i (some (.ml (os.set j (.v d))))) | none => .stuck)
    | _ => .stuck) L
  | _ => .stuck
end
end Eng
end
section
set_option Elab.async false
set_option linter.all false
set_option maxRecDepth 100000
set_option maxHeartbeats 4000000
namespace Eng
open PySem PySem.Spec PyProof.Rows L2
section
variable {G : Gd} {Γ : Gm} {W : WX} {B : Bd} {F0 F H : Hp} {L : Sl} {A : List Addr} {σ : L2.St}
inductive RpI (K : PySem.W.Frag) (mg : Str → Option Value) (σ : L2.St) (F : Hp) : List V → List (Nat ⊕ D) → Prop
  | nil : RpI K mg σ F [] []
  | mv {i : Nat} {v : V} {vs : List V} {xs : List (Nat ⊕ D)} : σ[i]? = some (some v) → RpI K mg σ F vs xs → RpI K mg σ F (v :: vs) (.inl i :: xs)
  | ex {v : V} {d : D} {vs : List V} {xs : List (Nat ⊕ D)} : Rp K mg F v d → RpI K mg σ F vs xs → RpI K mg σ F (v :: vs) (.inr d :: xs)
def iNil : Sl → R (List (Nat ⊕ D)) := fun _ => .ok []
def iMv (i : Nat) (r : Sl → R (List (Nat ⊕ D))) : Sl → R (List (Nat ⊕ D)) := fun L => match L[i]? with | some (some _) => (r L).bind fun xs => .ok (.inl i :: xs) | _ => .stuck
def iEx (m : Sl → R D) (r : Sl → R (List (Nat ⊕ D))) : Sl → R (List (Nat ⊕ D)) := fun L => (m L).bind fun d => (r L).bind fun xs => .ok (.inr d :: xs)
theorem RpI.mono {K : PySem.W.Frag} {mg : Str → Option Value} {σ : L2.St} {F F' : Hp} (s : Same F F') : ∀ {vs : List V} {xs : List (Nat ⊕ D)}, RpI K mg σ F vs xs → RpI K mg σ F' vs xs
  | _, _, .nil => .nil
  | _, _, .mv e t => .mv e (RpI.mono s t)
  | _, _, .ex r t => .ex (r.mono s) (RpI.mono s t)
theorem RpI.length {K : PySem.W.Frag} {mg : Str → Option Value} {σ : L2.St} {F : Hp} : ∀ {vs : List V} {xs : List (Nat ⊕ D)}, RpI K mg σ F vs xs → vs.length = xs.length
  | _, _, .nil => rfl
  | _, _, .mv _ t => congrArg (· + 1) (RpI.length t)
  | _, _, .ex _ t => congrArg (· + 1) (RpI.length t)
def moves : List (Nat ⊕ D) → Sl → Option (List O × Sl)
  | [], L => some ([], L)
  | .inl i :: xs, L => match L[i]? with | some (some o) => if okSet L i = true then (moves xs (L.set i none)).map fun p => (o :: p.1, p.2) else none | _ => none
  | .inr d :: xs, L => (moves xs L).map fun p => (.v d :: p.1, p.2)
theorem Rl.take (R : Rl G B F0 L F A σ H) {i : Nat} {o : O} (e : L[i]? = some (some o)) (hok : okSet L i = true) : ∃ v Ai A', σ[i]? = some (some v) ∧ Ow G.tg G.K G.mg F H v o Ai ∧ Ai.Nodup ∧ Rl G B F0 (L.set i none) F A' σ H ∧ (∀ a ∈ Ai, a ∈ A ∧ a ∉ A') ∧ ∀ a ∈ A', a ∈ A := by
  obtain ⟨v, A1, Ai, A2, h1, h2, h3, q0⟩ := R.os.take e
  have nd := R.nd
  rw [h3] at nd
  have n1 := List.nodup_append.mp nd
  have n2 := List.nodup_append.mp n1.1
  have sub : ∀ a ∈ A1 ++ A2, a ∈ A := fun a m => by rw [h3]; simp at m ⊢; rcases m with m | m <;> simp [m]
  refine ⟨v, Ai, A1 ++ A2, h1, h2, n2.2.1, ⟨q0, ?_, R.sf, R.f0, R.sb, R.fb, fun a m => R.fa a (sub a m), ?_⟩, fun a m => ⟨by rw [h3]; simp [m], fun m' => ?_⟩, sub⟩
  · exact List.nodup_append.mpr ⟨n2.1, n1.2.1, fun a ha b hb => n1.2.2 a (List.mem_append_left _ ha) b hb⟩
  · have := pn_set (x := none) (y := some v) (okSet_of hok).2 R.pn
    have e2 : σ.set i (some v) = σ := by
      obtain ⟨hi, e⟩ := List.getElem?_eq_some_iff.mp h1
      rw [← e]; exact List.set_getElem_self hi
    rw [e2] at this; exact this
  · rcases List.mem_append.mp m' with m' | m'
    · exact n2.2.2 a m' a m rfl
    · exact n1.2.2 a (List.mem_append_right _ m) a m' rfl
def sRetT (m : Sl → R (List (Nat ⊕ D))) : Sl → RS := sBind m fun xs L => if xs.length ≤ sizeLine then (match moves xs L with | some (os, L') => .ret (.mt os) L' | none => .stuck) else .stuck
theorem OwA.nth {tg : Tg} {K : PySem.W.Frag} {mg : Str → Option Value} {F H : Hp} : ∀ {vs : List V} {os : List O} {A : List Addr} {c : Nat} {o : O}, OwA tg K mg F H vs os A → os[c]? = some o →
    ∃ v A1 Ac A2, vs[c]? = some v ∧ Ow tg K mg F H v o Ac ∧ A = A1 ++ Ac ++ A2 ∧
      ∀ (F' H' : Hp) (o' : O) (Ac' : List Addr), Same F F' → (∀ a, a ∈ A1 ∨ a ∈ A2 → H' a = H a) → Ow tg K mg F' H' v o' Ac' → OwA tg K mg F' H' vs (os.set c o') (A1 ++ Ac' ++ A2)
  | _, _, _, c, o, .nil, e => by simp at e
  | _, _, _, 0, o, .cons (A := A0) (B := B0) r t, e => by
    simp at e; subst e
    exact ⟨_, [], A0, B0, rfl, r, by simp, fun F' H' o' Ac' s k r' => .cons r' (OwA.mono s (fun a m => k a (.inr m)) t)⟩
  | _, _, _, c + 1, o, .cons (A := A0) r t, e => by
    obtain ⟨v, A1, Ac, A2, h1, h2, h3, h4⟩ := OwA.nth (c := c) t (by simpa using e)
    refine ⟨v, A0 ++ A1, Ac, A2, by simpa using h1, h2, by rw [h3]; simp, fun F' H' o' Ac' s k r' => ?_⟩
    have := h4 F' H' o' Ac' s (fun a m => k a (m.imp (List.mem_append_right _) id)) r'
    rw [List.append_assoc, List.append_assoc, ← List.append_assoc A1]
    exact .cons (Ow.mono s (fun a m => k a (.inl (List.mem_append_left _ m))) r) this
def sAppIx (i c : Nat) (m : Sl → R O) : Sl → RS := fun L => match L[i]? with
  | some (some (.mt os)) => (match os[c]? with
    | some (.ml _) => sBind m (fun o L => match L[i]? with
      | some (some (.mt os)) => (match os[c]? with | some (.ml ps) => if ps.length < sizeLine then .next (L.set i (some (.mt (os.set c (.ml (ps ++ [o])))))) else .stuck | _ => .stuck)
      | _ => .stuck) L
    | _ => .stuck)
  | _ => .stuck
end
end Eng
end
section
set_option Elab.async false
set_option linter.all false
set_option maxRecDepth 100000
set_option maxHeartbeats 4000000
namespace Eng
open PySem PySem.Spec PyProof.Rows L2
section
variable {G : Gd} {Γ : Gm} {W : WX} {B : Bd} {F0 F H : Hp} {L : Sl} {A : List Addr} {σ : L2.St}
theorem OwA.plain {tg : Tg} {K : PySem.W.Frag} {mg : Str → Option Value} {F H : Hp} : ∀ {vs : List V} {ds : List D} {A : List Addr}, OwA tg K mg F H vs (ds.map .v) A → RpA K mg F vs ds
  | _, [], _, .nil => .nil
  | _, d :: ds, _, .cons r t => by
    cases r with
    | v r => exact .cons r (OwA.plain t)
def mRepL (m : Sl → R (List D)) (mb : Sl → R D) : Sl → R O := fun L => (m L).bind fun ds => if ds.length ≤ 1000 then (mb L).bind fun y => (match y with
  | .int k => if 0 ≤ k ∧ k ≤ 1000 then .ok (.ml ((List.replicate k.toNat ds).flatten.map .v)) else .stuck
  | _ => .stuck) else .stuck
theorem co_repL {es : List Expr} {b : Expr} {m : Sl → R (List D)} {mb : Sl → R D} {pos pos2} (ha : CA G Γ es m) (hb : CE G Γ b mb) : CO G Γ (.BinOp (.List es pos) .Mult b pos2) (mRepL m mb) := by
  refine fun X ok W tk => PE.imp (pe_op op_rep (co_lst ha X ok W tk) (hb X ok W tk)) fun σ H Q h => ?_
  obtain ⟨B, F0, L, F, A, R, h⟩ := h
  refine ⟨B, F0, L, F, A, R, ?_⟩
  unfold mRepL at h
  unfold mLst
  cases hm : m L with
  | stuck => rw [hm] at h; exact h.elim
  | exc c => rw [hm] at h; exact h
  | ok ds =>
    rw [hm] at h
    have h' : pG G W σ F H (if ds.length ≤ 1000 then (mb L).bind fun y => (match y with
      | .int k => if 0 ≤ k ∧ k ≤ 1000 then .ok (.ml ((List.replicate k.toNat ds).flatten.map .v)) else .stuck
      | _ => .stuck) else .stuck : Eng.R O) (fun o F' H' => ∀ v C, Ow G.tg G.K G.mg F' H' v o C → C.Nodup → (∀ a ∈ C, F' a = none ∧ H a = none) → Q v H') := h
    split at h'
    · rename_i hl
      have e : ((Eng.R.ok ds : Eng.R (List D)).bind fun ds => if ds.length ≤ sizeLine then (.ok (.ml (ds.map .v)) : Eng.R O) else .stuck) = .ok (.ml (ds.map .v)) := if_pos (Nat.le_trans hl (by decide))
      rw [e]
      intro F1 H1 g1 v C ow nC fC
      have R1 := R.gr g1
      cases ow with
      | @ml l vs _ A1 hH ra =>
        have rp := OwA.plain ra
        refine ⟨B, F0, L, F1, A, R1, (pG.bind (pG.mono g1 h')).imp R1 fun y F2 H2 s2 R2 g2 h2 w rw1 => ?_⟩
        split at h2
        · rename_i kk
          split at h2
          · rename_i hc
            cases rw1
            refine ⟨l, kk, vs, rfl, rfl, g2.sH.at' _ _ hH, by omega, by omega, ?_, fun p hp => new_ml R2.sf ((rp.mono s2).rep _) hp fun v C F' H' g ow nC fC => h2 F' H' g v C ow nC fun a m => ⟨(fC a m).1, (g1.sH.trans g2.sH).free (fC a m).2⟩⟩
            show vs.length * kk.toNat ≤ 16777216
            have : kk.toNat ≤ 1000 := by omega
            exact Nat.le_trans (Nat.mul_le_mul (by rw [rp.length]; exact hl) this) (by decide)
          · exact h2.elim
        · exact h2.elim
    · exact h'.elim
end
end Eng
end
section
set_option Elab.async false
set_option linter.all false
set_option maxRecDepth 100000
set_option maxHeartbeats 4000000
namespace Eng
open PySem PySem.Spec PyProof.Rows L2
section
variable {G : Gd} {Γ : Gm} {W : WX} {B : Bd} {F0 F H : Hp} {L : Sl} {A : List Addr} {σ : L2.St}
def mvGo (j : Nat) (body : Sl → RS) : Sl → List O → RS
  | L, [] => .next L
  | L, o :: os => if okSet L j = true then (match body (L.set j (some o)) with
    | .next L2 => mvGo j body L2 os
    | .cont L2 => mvGo j body L2 os
    | _ => .stuck) else .stuck
def sForMv (i j : Nat) (body : Sl → RS) : Sl → RS := fun L => match L[i]? with
  | some (some (.ml os)) => if okSet L i = true then mvGo j body (L.set i none) os else .stuck
  | _ => .stuck
def more (B : Bd) (H : Hp) (C : List Addr) : Bd := ⟨fun a => if a ∈ C then H a else B.h a, B.p⟩
theorem Rl.more (R : Rl G B F0 L F A σ H) {C : List Addr} (h : ∀ a ∈ C, F a = none ∧ B.h a = none ∧ a ∉ A) : Rl G (more B H C) F0 L F A σ H where
  os := R.os
  nd := R.nd
  sf := R.sf
  f0 := R.f0
  sb := by
    refine ⟨⟨fun a u e n => ?_, fun a ps e => ?_, fun _ => R.sb.kp.tt R.sb.tb.t⟩, tabs_less R.sb.tb.t fun a u e _ => ?_, R.sb.tb.f⟩
    · unfold Eng.more at e
      dsimp only at e
      split at e
      · exact e
      · exact R.sb.kp.at' _ _ e n
    · unfold Eng.more at e
      dsimp only at e
      split at e
      · exact ⟨ps, e⟩
      · exact R.sb.kp.tb _ _ e
    · unfold Eng.more
      dsimp only
      rw [if_neg fun m => by rw [(h a m).2.1] at e; cases e]
      exact e
  fb := fun a h0 n => by
    by_cases m : a ∈ C
    · exact (h a m).1
    · refine R.fb a h0 ?_
      unfold Nt Eng.more at n
      dsimp only at n
      rw [if_neg m] at n
      exact n
  fa := fun a m => ⟨(R.fa a m).1, by
    unfold Eng.more
    dsimp only
    rw [if_neg fun mc => (h a mc).2.2 m]
    exact (R.fa a m).2⟩
  pn := R.pn
theorem Rl.less {H0 : Hp} {C : List Addr} (R : Rl G (Eng.more B H0 C) F0 L F A σ H) (hB : ∀ a ∈ C, B.h a = none) (hC : ∀ a ∈ C, ∃ u, H0 a = some u ∧ MutO u) : Rl G B F0 L F A σ H where
  os := R.os
  nd := R.nd
  sf := R.sf
  f0 := R.f0
  sb := by
    have up : ∀ a u, B.h a = some u → (Eng.more B H0 C).h a = some u := fun a u e => by
      unfold Eng.more
      dsimp only
      rw [if_neg fun m => by rw [hB a m] at e; cases e]
      exact e
    refine ⟨⟨fun a u e n => R.sb.kp.at' a u (up a u e) n, fun a ps e => R.sb.kp.tb a ps (up a _ e), fun _ => R.sb.kp.tt R.sb.tb.t⟩, tabs_less R.sb.tb.t fun a u e m => ?_, R.sb.tb.f⟩
    unfold Eng.more at e
    dsimp only at e
    split at e
    · rename_i mc
      obtain ⟨u', e', m'⟩ := hC a mc
      rw [e] at e'; cases e'; exact absurd m' m
    · exact e
  fb := fun a h0 n => R.fb a h0 (by
    have m : a ∉ C := fun m => n.1 (hB a m)
    unfold Nt Eng.more
    dsimp only
    rw [if_neg m]
    exact n)
  fa := fun a m => ⟨(R.fa a m).1, by
    have := (R.fa a m).2
    unfold Eng.more at this
    dsimp only at this
    split at this
    · rename_i mc
      obtain ⟨u, e, _⟩ := hC a mc
      rw [e] at this; cases this
    · exact this⟩
  pn := R.pn
theorem OwA.mut {tg : Tg} {K : PySem.W.Frag} {mg : Str → Option Value} {F H : Hp} : ∀ {vs : List V} {os : List O} {A : List Addr}, OwA tg K mg F H vs os A → ∀ a ∈ A, ∃ u, H a = some u ∧ MutO u
  | _, _, _, .nil => fun _ m => nomatch m
  | _, _, _, .cons r t => fun a m => (List.mem_append.mp m).elim (Ow.mut r a) (OwA.mut t a)
def oNil : Sl → R (List O) := fun _ => .ok []
def oCons (m : Sl → R O) (r : Sl → R (List O)) : Sl → R (List O) := fun L => (m L).bind fun o => (r L).bind fun os => .ok (o :: os)
def mLstO (m : Sl → R (List O)) : Sl → R O := fun L => (m L).bind fun os => if os.length ≤ sizeLine then .ok (.ml os) else .stuck
end
end Eng
end
section
set_option Elab.async false
set_option linter.all false
set_option maxRecDepth 100000
set_option maxHeartbeats 4000000
namespace Eng
open PySem PySem.Spec PyProof.Rows L2
def distR : List Str → Nat
  | [] => 0
  | x :: r => if x ∈ r then distR r else distR r + 1
def dist (xs : List Str) : Nat := distR xs.reverse
theorem distR_le : ∀ xs : List Str, distR xs ≤ xs.length
  | [] => Nat.le_refl _
  | x :: r => by
    have := distR_le r
    unfold distR
    split <;> simp <;> omega
theorem dist_take {xs : List Str} {i : Nat} {z : Str} (h : xs[i]? = some z) : dist (xs.take (i + 1)) = if z ∈ xs.take i then dist (xs.take i) else dist (xs.take i) + 1 := by
  unfold dist
  rw [List.take_add_one, h]
  simp [distR]
section
variable {P : Program} {w : World} {A : Around} {E : Value → Shared → Prop} {s : Shared}
theorem txt_loop {It : Addr} {fs ws : List Addr} {Gn : Array GenState → Array GenState → Prop} {m : Nat} {Pv : Nat → Value → Prop} {St : Nat → Shared → Prop} {Rs : Result → Shared → Prop}
    (Wk : WalksS P w A.in1 It fs ws Gn m Pv St) (D : Addr) (out : D ∉ fs) (xs : List Str) (em : m = xs.length) (few : xs.length + 1 < scanBound) (vals : ∀ i v, Pv i v → ∃ z t, xs[i]? = some z ∧ v = .str z t) :
    ∀ (left i : Nat) (s : Shared), m - i = left → i ≤ m → St i s → s.heap.SetOf (strKind P w) D (fun z => decide (z ∈ xs.take i)) (dist (xs.take i)) →
      (∀ s', Moved (D :: ws) Gn s s' → s'.heap.SetOf (strKind P w) D (fun z => decide (z ∈ xs)) (dist xs) → Rs (.ok (.ret .none)) s') →
      codeAny (model P w) A (.builtin "set.update.loop" ⟨[.ref D, .ref It], []⟩) Rs s := by
  have outW : D ∉ ws := fun z => out (Wk.sub _ z)
  have sub : ∀ b ∈ ws, b ∈ D :: ws := fun _ z => List.mem_cons_of_mem _ z
  have kept : ∀ {h1 h2 : Heap} {S : Str → Bool} {n : Nat}, h1.SetOf (strKind P w) D S n → (∀ o, h1.get? D = some o → h2.get? D = some o) → h2.SetOf (strKind P w) D S n := fun q k => by
    obtain ⟨o, es, ep, tb, ho, rest⟩ := q
    exact ⟨o, es, ep, tb, k o ho, rest⟩
  intro left
  induction left with
  | zero =>
    intro i s hl hi st q goal
    have ei : i = m := by omega
    subst ei
    rw [List.take_of_length_le (by omega)] at q
    refine codeAny_builtin F.entry_set_update_loop ?_
    rw [Around.under_plainId F.plain_set_update_loop _]
    show wpAny _ A.in1 (pyNext (.ref It) >>= _) _ _ s
    exact wpAny_bind (Wk.done s _ _ st fun s1 mv => wpAny_pure (goal s1 (mv.mono sub) (kept q fun o e => mv.heap D o outW e)))
  | succ left ih =>
    intro i s hl hi st q goal
    have lt : i < m := by omega
    refine codeAny_builtin F.entry_set_update_loop ?_
    rw [Around.under_plainId F.plain_set_update_loop _]
    show wpAny _ A.in1 (pyNext (.ref It) >>= _) _ _ s
    refine wpAny_bind (Wk.item i s _ _ lt st fun v s1 pv st1 mv => ?_)
    obtain ⟨z, t, ez, rfl⟩ := vals i v pv
    have q1 := kept (h2 := s1.heap) q fun o e => mv.heap D o outW e
    show wpAny _ A.in1 (holding [Value.str z t] (setAdd D (.str z t)) >>= _) _ _ s1
    refine wpAny_bind (wpAny_holding ?_)
    unfold setAdd
    have bd := distR_le (xs.take i).reverse
    rw [List.length_reverse, List.length_take] at bd
    refine wpAny_holding (wpAny_bind ((strKind P w).pyHash (k := z) (strKind_is _ _ _ _) ?_))
    refine wpAny_setAddHashed_of (knd := strKind P w) (s := { s1 with toks := s1.toks + 1 }) (strKind_is _ _ _ _) rfl q1 (by show dist (xs.take i) + 1 < scanBound; unfold dist; omega) fun h2 same q2 => ?_
    have q3 : h2.SetOf (strKind P w) D (fun y => decide (y ∈ xs.take (i + 1))) (dist (xs.take (i + 1))) := SetOf_congr q2 (fun y => by rw [List.take_add_one, ez]; simp [List.mem_append]) (by rw [dist_take ez]; simp)
    refine wpAny_pure ⟨plainId_quiet F.plain_set_update_loop _, ih (i + 1) _ (by omega) lt (Wk.frame _ s1 _ _ st1 (Nat.le_succ _) fun b hb o e => ?_) q3 fun s2 mv2 q4 => ?_⟩
    · exact (same.2 b (fun z => out (z ▸ hb))).trans e
    · exact goal s2 (Moved.trans Wk.gtrans ((mv.mono sub).then_heap (Nat.le_succ _) fun b o hb e => (same.2 b (fun z => hb (z ▸ List.mem_cons_self))).trans e) mv2) q4
abbrev newSet (w : World) : Obj := { cls := .type "set", dict := none, data := .set #[] 0 (.fresh 0 0 (!w.params.followText "set-order")) }
set_option maxHeartbeats 3200000 in
theorem set_of_tup {l : Addr} {its : Array Value} (xs : List Str) {Q : Value → Shared → Prop} (quiet : A.handled = none) (tup : s.heap.IsTuple l its) (txt : StrsAre its.toList xs) (few : xs.length + 1 < scanBound)
    (goal : ∀ (h' : Heap) (tk : Nat), h'.SetOf (strKind P w) s.heap.objs.size (fun z => decide (z ∈ xs)) (dist xs) → (∀ b o, s.heap.get? b = some o → h'.get? b = some o) → Q (.ref s.heap.objs.size) { s with heap := h', toks := tk }) :
    wpAny (model P w) A (call (.type "set") [.ref l]) Q E s := by
  have size : its.size = xs.length := by rw [← Array.length_toList]; exact StrsAre.length txt
  obtain ⟨c, tl, hmro⟩ := F.called_set.mro
  have hmade := F.called_set.made
  have hsub := F.called_set.sub
  refine wpAny_call (codeAny_of_tree (show wpAny _ _ (callAny (.type "set") _) _ _ _ from wpAny_pure ⟨Code.quiet_builtin _ (by decide +kernel), codeAny_builtin F.entry_type_call ?_⟩))
  rw [Around.under_plain (weight_type_call_type "set" [.ref l] []) rfl]
  have h1 := F.called_set.notType
  have h2 := F.called_set.canCreate
  have hct := F.typeCall_set_1 (.ref l)
  repeat (any_goals (first | assumption | wp_step))
  refine codeAny_mono (code_set_led1 (.ref l) (E := E) (Q₁ := fun obj s₁ => obj = .ref s.heap.objs.size ∧ s₁ = { s with heap := s.heap.push (newSet w) }) ⟨rfl, rfl⟩) fun r s₁ hr => ?_
  cases r with
  | error e => exact hr
  | ok fl =>
    cases fl with
    | ret obj =>
      obtain ⟨rfl, rfl⟩ := hr
      have at0 : (s.heap.push (newSet w)).get? s.heap.objs.size = some (newSet w) := Heap.get?_push_size _ rfl
      have hT : Shared.TypeIs { s with heap := s.heap.push (newSet w) } (.ref s.heap.objs.size) "set" := ⟨_, at0, rfl⟩
      have hli := F.called_set.init.lookup
      have hbi := F.called_set.init.bind (.ref s.heap.objs.size)
      repeat (any_goals (first | assumption | wp_step))
      refine codeAny_mono (codeAny_call_builtin (R := wants (fun r t => r = .none ∧ ∃ (h' : Heap) (tk : Nat), t = { s with heap := h', toks := tk } ∧ h'.SetOf (strKind P w) s.heap.objs.size (fun z => decide (z ∈ xs)) (dist xs) ∧ ∀ b o, s.heap.get? b = some o → h'.get? b = some o) E)
        F.called_set.init.plain F.entry_set_init (check_set_init_1 hT ?_)) fun r2 s2 res => ?_
      · have lt0 : l < s.heap.objs.size := by obtain ⟨o, ho, _⟩ := tup; exact Heap.lt_size ho
        have tup1 : (s.heap.push (newSet w)).IsTuple l its := tup.push _
        obtain ⟨ot, hot, hcl, nl, hdl⟩ := tup
        obtain ⟨ocls, odict, odata, oslots⟩ := ot
        simp only at hcl hdl
        subst hcl hdl
        have there : (s.heap.push (newSet w)).get? l = some { cls := .type "tuple", dict := odict, data := .seq its nl, slots := oslots } := Heap.get?_push_of_some _ hot
        have no1 := F.sub_tuple_set
        have no2 := F.sub_tuple_frozenset
        have no3 : (Value.type "tuple" == Value.type "dict") = false := by decide
        unfold Builtin.«set.__init__» noKeywords Builtin.Frozenset.updateFrom
        generalize hIt : pyIter = It
        wp_walk
        subst hIt
        refine wpAny_pyIter_tuple tup1 (wpAny_bind (wpAny_runValue ?_))
        have q3 : A.in1.in1.in1.handled = none := by simp [quiet]
        have z1 : (s.heap.push (newSet w)).objs.size = s.heap.objs.size + 1 := Heap.size_push ..
        have neI : l ≠ (s.heap.push (newSet w)).objs.size := Nat.ne_of_lt (by rw [z1]; exact Nat.lt_succ_of_lt lt0)
        have out : s.heap.objs.size ∉ [(s.heap.push (newSet w)).objs.size, l] := by
          rw [z1]
          simp only [List.mem_cons, List.not_mem_nil, or_false, not_or]
          exact ⟨Nat.ne_of_lt (Nat.lt_succ_self _), Nat.ne_of_gt lt0⟩
        refine txt_loop ((Walks.tuple q3 _ l neI its).toS) s.heap.objs.size out xs size few (fun i v hv => ?_) (its.size - 0) 0 _ (by omega) (Nat.zero_le _) ⟨⟨_, Heap.get?_push_size _ rfl, rfl, rfl⟩, (tup1.push _)⟩ ?S0 ?S1
        · have hv2 : its.toList[i]? = some v := by rw [Array.getElem?_toList]; exact hv
          obtain ⟨t, e⟩ := SS.strs_at txt i v hv2
          have hi : i < xs.length := by rw [← size]; exact (Array.getElem?_eq_some_iff.mp hv).1
          exact ⟨xs[i], t, List.getElem?_eq_getElem hi, by rw [e, List.getD_eq_getElem?_getD, List.getElem?_eq_getElem hi]; rfl⟩
        case S0 =>
          refine SetOf_congr ((setObjOf_fresh (knd := strKind P w) (!w.params.followText "set-order")).setOf (Heap.get?_push_of_some _ at0) (by decide)) (fun z => by simp) ?_
          simp [dist, distR]
        case S1 =>
          intro t mv q
          obtain ⟨h', g2, d2, tk, os2⟩ := t
          have e1 : g2 = s.gens := mv.gens
          have e2 : d2 = s.drawn := mv.drawn
          have e3 : os2 = s.os := mv.os
          subst e1 e2 e3
          show wpAny _ _ _ _ _ _
          refine wpAny_pure (show wpAny _ _ (ret Value.none) _ _ _ from wpAny_pure ⟨rfl, h', tk, rfl, q, fun b o e => ?_⟩)
          have b0 : b < s.heap.objs.size := Heap.lt_size e
          refine mv.heap b o ?_ (Heap.get?_push_of_some _ (Heap.get?_push_of_some _ e))
          simp only [List.mem_cons, List.not_mem_nil, or_false, not_or]
          exact ⟨Nat.ne_of_lt b0, Nat.ne_of_lt (by rw [z1]; exact Nat.lt_succ_of_lt b0)⟩
      · cases r2 with
        | error e => exact res
        | ok fl2 =>
          cases fl2 with
          | ret r =>
            obtain ⟨rfl, h', tk, rfl, q1, q2⟩ := res
            repeat (any_goals (first | assumption | wp_step))
            exact goal _ _ q1 q2
          | _ => exact res.elim
    | _ => exact hr.elim
end
end Eng
end
section
set_option Elab.async false
set_option linter.all false
set_option maxRecDepth 100000
set_option maxHeartbeats 4000000
namespace Eng
open PySem PySem.Spec PyProof.Rows L2
section
variable {Y : Cx} {pins : List (Addr × Obj)} {σ : L2.St} {H : Hp} {s : Shared}
theorem seen (I : Inv Y pins σ H s) {a C : Addr} {d : Option Addr} {oe : Obj} {vs : Array Value} (ha : s.heap.get? a = some oe) (hz : Zc (.ref C) d oe) (hd : oe.data = .fields vs) (na : H a = none) (nL : a ≠ Y.env.locals)
    (n0 : a ∉ Y.ex → Y.s_0.heap.get? a = none) (np : ∀ p ∈ Y.pn ++ pins, p.1 ≠ a) : Inv Y pins σ (upd H a (.ext (ExAt a C d))) s := by
  have nc : ∀ x c, Y.env.cells.lookup x = some c → c ≠ a := fun x c e z => by
    obtain ⟨v, o, h1, h2⟩ := I.cell x c e
    rw [z, ha] at h1; cases h1
    rw [hd] at h2; cases h2
  refine ⟨I.ok, I.os, I.bare, ⟨I.base.keep, I.base.slot, fun b o e n hx => ?_, I.base.there, fun b xs e => ?_, fun b o u e => ?_, fun b ps e => ?_⟩, I.loc, I.cell, ?_, fun x c e => ?_, fun p hp => ?_, fun b u e => ?_, I.len⟩
  · rw [upd_ne (fun (z : b = a) => by rw [z, n0 (z ▸ hx)] at e; cases e)]; exact I.base.free b o e n hx
  · have q := I.base.tups b xs e
    rw [upd_ne (ne_of_none q na)]; exact q
  · have q := I.base.frzs b o u e
    rw [upd_ne (ne_of_none q na)]; exact q
  · obtain ⟨m, q⟩ := I.base.tbls b ps e
    exact ⟨m, by rw [upd_ne (ne_of_none q na)]; exact q⟩
  · rw [upd_ne (Ne.symm nL)]; exact I.free
  · rw [upd_ne (nc x c e)]; exact I.freeC x c e
  · obtain ⟨e, n, r⟩ := I.pin p hp
    exact ⟨e, by rw [upd_ne (np p hp)]; exact n, r⟩
  · by_cases hb : b = a
    · subst hb
      rw [upd_same] at e; cases e
      exact ⟨⟨oe, vs, ha, hz, hd⟩, ⟨oe, ha⟩, fun h1 h2 ⟨o, w, q1, q2, q3⟩ k => ⟨o, w, k _ q1, q2, q3⟩⟩
    · rw [upd_ne hb] at e
      exact (I.hok b u e).stay (fun _ _ _ q => q) (fun c q => by rw [upd_ne (ne_of_none q na)]; exact q) fun c xs q => by rw [upd_ne (ne_of_none q na)]; exact q
theorem inSuite (I : Inv Y pins σ H s) (a : Addr) : Inv (Y.suite a (Y.pn ++ pins)) [] σ H s :=
  ⟨I.ok.suite _ _, I.os, I.bare, I.base, I.loc, I.cell, I.free, I.freeC, fun p hp => I.pin p (by rw [List.append_nil] at hp; exact hp), I.hok, I.len⟩
theorem offSuite {a : Addr} {pn' : List (Addr × Obj)} (I : Inv (Y.suite a (Y.pn ++ pins)) pn' σ H s) (ok : Y.Ok) : Inv Y pins σ H s :=
  ⟨ok, I.os, I.bare, I.base, I.loc, I.cell, I.free, I.freeC, fun p hp => I.pin p (List.mem_append_left _ hp), I.hok, I.len⟩
end
structure Hx where
  c : Value
  slot : Option Nat
  ts : Addr → Addr → Option Addr → TS
def hxSt (a : Addr) (σ : L2.St) : Option Nat → L2.St
  | none => σ
  | some i => σ.set i (some (.ref a))
def hxEnd (D : Ends) : Option Nat → Ends
  | none => D
  | some i => { nx := fun σ H => D.nx (σ.set i none) H, rt := D.rt, bk := fun σ H => D.bk (σ.set i none) H, ct := fun σ H => D.ct (σ.set i none) H }
def wHx (K : PySem.W.Frag) (Wo : WX) (D : Ends) : List Hx → WX
  | [] => Wo
  | h :: r => fun cls d σ H => ∃ b, PySem.W.exmOne K cls h.c = some b ∧ (b = true → ∃ C, cls = .ref C ∧ ∀ a, H a = none → h.ts a C d (hxEnd D h.slot) (hxSt a σ h.slot) (upd H a (.ext (ExAt a C d)))) ∧ (b = false → wHx K Wo D r cls d σ H)
inductive HdsX (Y : Cx) : List ExceptHandler → List Hx → Prop
  | nil : HdsX Y [] []
  | one {x : Str} {c : Value} {ts : Addr → Addr → Option Addr → TS} {b₀ : Stmt} {suite : List Stmt} {np p : Pos} {hds : List ExceptHandler} {l : List Hx} (hc : Names Y x c) (hsu : ∀ a C d pn, PSs (Y.suite a pn) (b₀ :: suite) (ts a C d)) (r : HdsX Y hds l) :
      HdsX Y (.ExceptHandler (some (.Name x np)) none (b₀ :: suite) p :: hds) (⟨c, none, ts⟩ :: l)
  | as {x n : Str} {i : Nat} {c : Value} {ts : Addr → Addr → Option Addr → TS} {b₀ : Stmt} {suite : List Stmt} {np p : Pos} {hds : List ExceptHandler} {l : List Hx} (hN : Y.N.Nodup) (hi : Y.N[i]? = some n) (hl : Y.env.kindOf n = some .local) (hc : Names Y x c)
      (hsu : ∀ a C d pn, PSs (Y.suite a pn) (b₀ :: suite) (ts a C d)) (r : HdsX Y hds l) :
      HdsX Y (.ExceptHandler (some (.Name x np)) (some n) (b₀ :: suite) p :: hds) (⟨c, some i, ts⟩ :: l)
section
variable {Y : Cx} {Wo : WX} {body : List Stmt} {h₀ : ExceptHandler} {hds : List ExceptHandler} {l : List Hx} {pos : Pos} {tb : WX → TS}
theorem clsName {x : Str} {c : Value} {np : Pos} {a : Addr} {pn pins : List (Addr × Obj)} {σ : L2.St} {H : Hp} {s : Shared} {Q E : Value → Shared → Prop} (hc : Names Y x c) (I : Inv (Y.suite a pn) pins σ H s) (q : Q c s) :
    wpAny (model Y.prog Y.w) (Y.A.mark (some (.ref a))) (eval (.Name x np) Y.env) Q E s := by
  obtain ⟨g, nd, m | ⟨m, v, nn⟩⟩ := hc
  · exact ld_glob (X := Y.suite a pn) I g m q nd
  · exact ld_blt (X := Y.suite a pn) I g m v q nn nd
theorem ps_tryX (hst : Y.stack = Y.env :: Y.outer) (hfl : Y.env.frame = some Y.env.locals) (tk : Takes Y Wo)
    (hb : ∀ (W : WX) (pn : List (Addr × Obj)) (xe : Value → Shared → Prop), Takes (Y.tr pn xe) W → PassesOwn (model Y.prog Y.w) Y.A Y.env xe → PSs (Y.tr pn xe) body (tb W)) (hh : HdsX Y (h₀ :: hds) l) :
    PS Y (.Try body (h₀ :: hds) [] [] pos) (fun D σ H => tb (wHx Y.K Wo D l) D σ H) := by
  constructor
  intro pins s σ H D I hw
  have ok := I.ok
  have hA : Y.A.frames = some (Y.env :: Y.outer) := ok.frames.trans (congrArg some hst)
  refine wpAny_Try_except (wpAny_mono ((hb (wHx Y.K Wo D l) (Y.pn ++ pins) _ (fun u s' xx => ?_) PassesOwn.looking).run [] s σ H D (I.toTry _) hw) (fun f s1 q => ?_) fun _ _ z => z)
  · obtain ⟨a, B, sI, ps', σ1, H1, cls, d, rfl, J0, nb, up, sky, na, os, ag, w⟩ := xx
    have J1 : Inv Y pins σ1 H1 sI := J0.ofTry ok
    have nB : B.get? a = none := by rcases sky with z | z | z <;> exact z.2.1
    have nI : ∀ o, sI.heap.get? a = some o → a ∈ frs Y.stack := fun o e => Classical.byContradiction fun z => by rw [nb a o e z] at nB; cases nB
    have sky1 : Sky B (Y.env :: Y.outer) a (Zc cls d) Y.env.locals s'.heap := by rw [← hst]; exact sky
    show wpAny (model Y.prog Y.w) Y.A (noteFrame (.ref a) Y.env) _ _ _
    refine Sky.land Zc.steady hA hfl sky1 fun h3 fl3 up3 => ?_
    have J3 : Inv Y pins σ1 H1 { s' with heap := h3 } := J1.landed nb fl3.1 (up.trans up3) os ag
    have off : a ∉ frs (Y.env :: Y.outer) := fun m => by
      obtain ⟨oe, vs, e, _, dd⟩ := fl3.there
      obtain ⟨_, o', e', nf⟩ := fl3.2.2.1.mem m
      rw [e] at e'; cases e'
      exact nf _ dd
    have nI' : sI.heap.get? a = none := by
      cases e : sI.heap.get? a with
      | none => rfl
      | some o => exact absurd (nI o e) (by rw [hst]; exact off)
    have nL : a ≠ Y.env.locals := fun z => off (List.mem_filterMap.mpr ⟨Y.env, List.mem_cons_self, by rw [hfl, z]⟩)
    have n0 : a ∉ Y.ex → Y.s_0.heap.get? a = none := fun hx => by
      cases e : Y.s_0.heap.get? a with
      | none => rfl
      | some o =>
        obtain ⟨o', e'⟩ := J1.base.there a o e hx
        rw [nI'] at e'; cases e'
    have noPin : ∀ p ∈ Y.pn ++ pins, p.1 ≠ a := fun p hp z => by
      have e := (J1.pin p hp).1
      rw [z, nI'] at e; cases e
    have go : ∀ {hs' : List ExceptHandler} {l' : List Hx}, HdsX Y hs' l' → wHx Y.K Wo D l' cls d σ1 H1 → wpAny (model Y.prog Y.w) Y.A (handleBy (.ref a) Y.env hs') (SP Y pins D) Y.xe { s' with heap := h3 } := by
      intro hs' l' hk
      have ends : ∀ {D' : Ends} {σ2 : L2.St} {H2 : Hp} {ts : TS} {s2 : Shared} {b₀ : Stmt} {su : List Stmt} {K : Flow → Shared → Prop} {E : Value → Shared → Prop}, PSs (Y.suite a (Y.pn ++ pins)) (b₀ :: su) ts → Inv (Y.suite a (Y.pn ++ pins)) [] σ2 H2 s2 → ts D' σ2 H2 →
          (∀ f s6, SP Y pins D' f s6 → K f s6) → wpAny (model Y.prog Y.w) (Y.A.mark (some (.ref a))) (execs (b₀ :: su) Y.env) K E s2 := fun {D' σ2 H2 ts s2 b₀ su K E} hs I2 w2 k => by
        refine wpAny_mono (hs.run [] s2 σ2 H2 D' I2 w2) (fun f s6 q => k f s6 ?_) (fun _ _ z => False.elim z)
        cases f with
        | next => obtain ⟨σ6, H6, S6, q⟩ := q; exact ⟨σ6, H6, offSuite S6 ok, q⟩
        | brk => obtain ⟨σ6, H6, S6, q⟩ := q; exact ⟨σ6, H6, offSuite S6 ok, q⟩
        | cont => obtain ⟨σ6, H6, S6, q⟩ := q; exact ⟨σ6, H6, offSuite S6 ok, q⟩
        | ret u => obtain ⟨v, σ6, H6, S6, r, q⟩ := q; exact ⟨v, σ6, H6, offSuite S6 ok, r, q⟩
      obtain ⟨oe3, vs3, e3, z3, d3⟩ := fl3.there
      have S3 : Inv (Y.suite a (Y.pn ++ pins)) [] σ1 H1 { s' with heap := h3 } := inSuite J3 a
      have typ : PySem.W.Looks (model Y.prog Y.w) h3 (typeOf (.ref a)) cls := fun _ _ _ _ k q => wpAny_typeOf_ref (k _ _ e3) (by rw [z3.1]; exact q)
      induction hk with
      | nil =>
        intro w
        have land : wpAny (model Y.prog Y.w) Y.A (setFlight (.ref a) Y.env.frame) (fun _ s4 => wpAny (model Y.prog Y.w) Y.A (throw (.ref a) : Sem Flow) (SP Y pins D) Y.xe s4) Y.xe { s' with heap := h3 } := by
          rw [hfl]
          refine HandSPX.setFlight_upZ fl3 fun h4 hh4 up4 => wpAny_throw (tk _ _ ?_)
          exact ⟨a, B, sI, pins, σ1, H1, cls, d, rfl, J1, nb, (up.trans up3).trans up4, .inr (.inr (by rw [hst]; exact hh4)), na, os, ag, w⟩
        obtain ⟨k1, k2, k3, oe, vs, T, oT, ts, p1, p2, p3, p4, p5⟩ := id fl3
        refine wpAny_handleBy_nil ?_
        unfold PySem.passOn
        refine wpAny_bind (wpAny_field p1 p3 p4 ?_)
        rw [if_neg (by simp)]
        first
          | exact wpAny_bind (wpAny_pure (wpAny_bind land))
          | exact wpAny_bind land
      | @one x c ts b₀ su np p hds2 l2 hc hsu r ih =>
        rintro ⟨b, hb1, yes, no⟩
        refine wpAny_handleBy_cons (codeAny_handlers_test (clsName hc S3 ((PySem.W.exm_one (M := model Y.prog Y.w) J3.kIn typ hb1).here ?_))) (by intro q; cases q)
        cases b with
        | false => exact ih (no rfl)
        | true =>
          refine codeAny_handlers_suite (HandSPX.lands_againZ fl3 fun h4 fl4 up4 => ?_)
          obtain ⟨oe4, vs4, e4, z4, d4⟩ := fl4.there
          obtain ⟨C, rfl, w2⟩ := yes rfl
          have J4 : Inv Y pins σ1 H1 { s' with heap := h4 } := J1.landed nb fl4.1 ((up.trans up3).trans up4) os ag
          exact ends (D' := D) (hsu a C d _) (inSuite (seen J4 e4 z4 d4 na nL n0 noPin) a) (w2 a na) fun f s6 q => q
      | @as x n i c ts b₀ su np p hds2 l2 hN hi hl hc hsu r ih =>
        rintro ⟨b, hb1, yes, no⟩
        refine wpAny_handleBy_cons (codeAny_handlers_test (clsName hc S3 ((PySem.W.exm_one (M := model Y.prog Y.w) J3.kIn typ hb1).here ?_))) (by intro q; cases q)
        cases b with
        | false => exact ih (no rfl)
        | true =>
          refine codeAny_handlers_suite_as (HandSPX.lands_againZ fl3 fun h4 fl4 up4 => ?_)
          obtain ⟨oe4, vs4, e4, z4, d4⟩ := fl4.there
          obtain ⟨C, rfl, w2⟩ := yes rfl
          have J4 : Inv Y pins σ1 H1 { s' with heap := h4 } := J1.landed nb fl4.1 ((up.trans up3).trans up4) os ag
          refine store_ok (X := Y.suite a (Y.pn ++ pins)) (v := .ref a) (inSuite (seen J4 e4 z4 d4 na nL n0 noPin) a) hN hi (.inl hl) rfl (fun s5 S5 => ?_) (.inr hl)
          refine ends (hsu a C d _) S5 (w2 a na) fun f s6 q => ?_
          cases f with
          | next => obtain ⟨σ6, H6, S6, q⟩ := q; exact gone_ok S6 hN hi hl fun s7 J7 => ⟨_, H6, J7, q⟩
          | brk => obtain ⟨σ6, H6, S6, q⟩ := q; exact gone_ok S6 hN hi hl fun s7 J7 => ⟨_, H6, J7, q⟩
          | cont => obtain ⟨σ6, H6, S6, q⟩ := q; exact gone_ok S6 hN hi hl fun s7 J7 => ⟨_, H6, J7, q⟩
          | ret u => obtain ⟨v, σ6, H6, S6, r, q⟩ := q; exact gone_ok S6 hN hi hl fun s7 J7 => ⟨v, _, H6, J7, r, q⟩
    exact go hh w
  · cases f with
    | next => obtain ⟨σ2, H2, J, q⟩ := q; exact wpAny_execs_nil ⟨σ2, H2, J.ofTry ok, q⟩
    | brk => obtain ⟨σ2, H2, J, q⟩ := q; exact ⟨σ2, H2, J.ofTry ok, q⟩
    | cont => obtain ⟨σ2, H2, J, q⟩ := q; exact ⟨σ2, H2, J.ofTry ok, q⟩
    | ret u => obtain ⟨v, σ2, H2, J, r, q⟩ := q; exact ⟨v, σ2, H2, J.ofTry ok, r, q⟩
end
end Eng
end
section
set_option Elab.async false
set_option linter.all false
set_option maxRecDepth 100000
set_option maxHeartbeats 4000000
namespace Eng
open PySem PySem.Spec PyProof.Rows L2
section
variable {G : Gd} {Γ : Gm} {W : WX} {B : Bd} {F0 F H : Hp} {L : Sl} {A : List Addr} {σ : L2.St}
abbrev Gm.hot (Γ : Gm) : Gm := { Γ with cm := false }
theorem Gm.Gr.hot (gr : Γ.Gr G) : Γ.hot.Gr G := ⟨gr.fn, gr.bl, gr.cs, gr.ex, gr.is, gr.mkx, gr.mt, gr.ec, gr.isc, gr.fl, gr.tm⟩
theorem Gm.Ok.suite {X : Cx} (ok : Γ.Ok G X) (a : Addr) (pn : List (Addr × Obj)) : Γ.hot.Ok G (X.suite a pn) :=
  ⟨ok.prog, ok.w, ok.K, ok.mg, ok.base, ok.N, ok.nd, ok.sc, ok.kind, (fun z => nomatch z), (fun z => nomatch z), ok.un, PassesOwn.never, ok.fnl, ok.stk, ok.lm⟩
theorem Gm.Ok.tr {X : Cx} (ok : Γ.Ok G X) {pn : List (Addr × Obj)} {xe : Value → Shared → Prop} (h : PassesOwn (model X.prog X.w) X.A X.env xe) : Γ.Ok G (X.tr pn xe) :=
  ⟨ok.prog, ok.w, ok.K, ok.mg, ok.base, ok.N, ok.nd, ok.sc, ok.kind, ok.calm, ok.room, ok.un, h, ok.fnl, ok.stk, ok.lm⟩
def lookM (M : List (Str × Str × Bool)) (c h : Str) : Option Bool := (M.find? fun p => decide (p.1 = c) && decide (p.2.1 = h)).map (·.2.2)
theorem lookM_mem {M : List (Str × Str × Bool)} {c h : Str} {b : Bool} (e : lookM M c h = some b) : (c, h, b) ∈ M := by
  unfold lookM at e
  cases q : M.find? fun p => decide (p.1 = c) && decide (p.2.1 = h) with
  | none => rw [q] at e; cases e
  | some p =>
    rw [q] at e
    have m := List.mem_of_find?_eq_some q
    have z := List.find?_some q
    obtain ⟨x, y, k⟩ := p
    simp at z e
    obtain ⟨rfl, rfl⟩ := z
    subst e
    exact m
structure Hd where
  h : Str
  slot : Option Nat
  su : Sl → RS
def noExc : RS → RS
  | .exc _ _ => .stuck
  | r => r
def offS (i : Nat) : RS → RS
  | .next L => if isPin L i = true then .stuck else .next (L.set i none)
  | .brk L => if isPin L i = true then .stuck else .brk (L.set i none)
  | .cont L => if isPin L i = true then .stuck else .cont (L.set i none)
  | .ret o L => .ret o L
  | _ => .stuck
def hGo (M : List (Str × Str × Bool)) : List Hd → Str → Sl → RS
  | [], c, L => .exc c L
  | x :: r, c, L => match lookM M c x.h with
    | none => .stuck
    | some false => hGo M r c L
    | some true => match x.slot with
      | none => noExc (x.su L)
      | some i => if okSet L i = true then offS i (x.su (L.set i (some (.v (.exn c []))))) else .stuck
def sTry (M : List (Str × Str × Bool)) (b : Sl → RS) (hs : List Hd) : Sl → RS := fun L => match b L with
  | .exc c L' => hGo M hs c L'
  | r => r
inductive CHs (G : Gd) (Γ : Gm) : List ExceptHandler → List Hd → Prop
  | nil : CHs G Γ [] []
  | one {x : Str} {b₀ : Stmt} {suite : List Stmt} {np p : Pos} {hds : List ExceptHandler} {l : List Hd} {su : Sl → RS} (hc : (glB Γ.sc x && !(x == ("__debug__" : Str))) = true) (hsu : CSs G Γ.hot (b₀ :: suite) su) (r : CHs G Γ hds l) :
      CHs G Γ (.ExceptHandler (some (.Name x np)) none (b₀ :: suite) p :: hds) (⟨x, none, su⟩ :: l)
  | as {x n : Str} {i : Nat} {b₀ : Stmt} {suite : List Stmt} {np p : Pos} {hds : List ExceptHandler} {l : List Hd} {su : Sl → RS} (hc : (decide (Γ.N[i]? = some n) && (match Γ.sc.names.lookup n with | some .local => true | _ => false) && glB Γ.sc x && !(x == ("__debug__" : Str))) = true)
      (hsu : CSs G Γ.hot (b₀ :: suite) su) (r : CHs G Γ hds l) :
      CHs G Γ (.ExceptHandler (some (.Name x np)) (some n) (b₀ :: suite) p :: hds) (⟨x, some i, su⟩ :: l)
noncomputable def clsVal (G : Gd) (h : Str) : Value := match G.mg h with | some v => v | none => (bootBuiltins h).getD .none
theorem NmCls.val {h : Str} {cv : Value} (n : NmCls G h cv) : clsVal G h = cv := by
  unfold clsVal
  rcases n with ⟨C, rfl, e⟩ | ⟨n, rfl, e, e2, _⟩
  · rw [e]
  · rw [e, e2]; rfl
noncomputable def hxOf (G : Gd) (x : Hd) : Hx := ⟨clsVal G x.h, x.slot, fun _ _ _ => tS G (fun _ _ _ _ => False) x.su⟩
theorem names_of (gr : Γ.Gr G) {X : Cx} (ok : Γ.Ok G X) {x : Str} (hg : glB Γ.sc x = true) (hd : (x == ("__debug__" : Str)) = false) (hm : ∃ p ∈ Γ.M, p.2.1 = x) : Names X x (clsVal G x) := by
  obtain ⟨p, m, rfl⟩ := hm
  obtain ⟨C, cv, e1, e2, e3, e4⟩ := gr.mt p m
  rw [e2.val]
  refine ⟨gl_of ok.sc hg, hd, ?_⟩
  rcases e2 with ⟨C, rfl, e⟩ | ⟨n, rfl, e, e2, nn⟩
  · exact .inl (by rw [ok.mg]; exact e)
  · exact .inr ⟨by rw [ok.mg]; exact e, e2, nn⟩
theorem hdsx_of (gr : Γ.Gr G) {X : Cx} (ok : Γ.Ok G X) : ∀ {hds : List ExceptHandler} {l : List Hd}, CHs G Γ hds l → (∀ x ∈ l, ∃ p ∈ Γ.M, p.2.1 = x.h) → HdsX X hds (l.map (hxOf G)) := by
  intro hds l hc
  induction hc with
  | nil => intro _; exact .nil
  | one h1 h2 r ih =>
    intro hm
    obtain ⟨g, nd⟩ := and2 h1
    exact .one (names_of gr ok g (by simpa using nd) (hm _ List.mem_cons_self)) (fun a C d pn => h2 _ (ok.suite a pn) _ takes0) (ih fun x m => hm x (List.mem_cons_of_mem _ m))
  | as h1 h2 r ih =>
    intro hm
    obtain ⟨h1, nd⟩ := and2 h1
    obtain ⟨h1, g⟩ := and2 h1
    obtain ⟨hn, hl⟩ := and2 h1
    exact .as (by rw [ok.N]; exact ok.nd) (by rw [ok.N]; exact of_decide_eq_true hn) (by unfold Env.kindOf; rw [ok.sc]; exact lookLocal hl) (names_of gr ok g (by simpa using nd) (hm _ List.mem_cons_self)) (fun a C d pn => h2 _ (ok.suite a pn) _ takes0) (ih fun x m => hm x (List.mem_cons_of_mem _ m))
theorem hGo_w (gr : Γ.Gr G) {X : Cx} (ok : Γ.Ok G X) {D' : Ends} {c : Str} {C : Addr} (eC : G.mg c = some (.ref C)) : ∀ {l : List Hd} {σ : L2.St} {H : Hp}, (∀ x ∈ l, bootBuiltins x.h = none) → Rel G B F0 F L σ H → pS G W B F0 F (hGo Γ.M l c L) D' → wHx X.K W D' (l.map (hxOf G)) (.ref C) none σ H := by
  intro l
  induction l with
  | nil =>
    intro σ H hl R h
    obtain ⟨C', e, h⟩ := h
    rw [eC] at e; cases e
    exact h σ H R
  | cons x r ih =>
    intro σ H hl R h
    unfold hGo at h
    cases e : lookM Γ.M c x.h with
    | none => rw [e] at h; exact h.elim
    | some b =>
      rw [e] at h
      obtain ⟨C', cv, k1, k2, k3, k4⟩ := gr.mt _ (lookM_mem e)
      dsimp only at k1 k2 k3
      rw [eC] at k1; cases k1
      have kr : ∃ D, cv = .ref D := by
        rcases k2 with ⟨D, q, _⟩ | ⟨n, _, _, q, _⟩
        · exact ⟨D, q⟩
        · rw [hl x List.mem_cons_self] at q; cases q
      obtain ⟨D, rfl⟩ := kr
      have k3 := k3 D rfl
      refine ⟨b, by rw [ok.K]; show PySem.W.exmOne G.K (.ref C) (clsVal G x.h) = some b; rw [k2.val]; exact k3, ?_⟩
      cases b with
      | false => exact ⟨(fun z => nomatch z), fun _ => ih (fun y m => hl y (List.mem_cons_of_mem _ m)) R h⟩
      | true =>
        refine ⟨fun _ => ⟨C, rfl, fun a na => ?_⟩, fun z => nomatch z⟩
        obtain ⟨F', A', s', R'⟩ := R
        obtain ⟨s2, R2⟩ := R'.frz (.ext (ExAt a C none)) na
        have s3 := s'.trans s2
        show tS G _ x.su (hxEnd D' x.slot) (hxSt a σ x.slot) _
        cases es : x.slot with
        | none =>
          rw [es] at h
          refine ⟨B, F0, L, _, A', R2, ?_⟩
          have h := pS.mono s3 h
          dsimp only at h
          cases e2 : x.su L with
          | exc c L2 => rw [e2] at h; exact h.elim
          | _ => rw [e2] at h; exact h
        | some i =>
          rw [es] at h
          dsimp only at h
          split at h
          · rename_i hok
            have rp : Rp G.K G.mg (upd F' a (.ext (ExAt a C none))) (.ref a) (.exn c []) := .exn (d := none) upd_same eC (.inl ⟨rfl, rfl⟩) .nil
            obtain ⟨A3, R3⟩ := R2.set (okSet_of hok).1 (okSet_of hok).2 rp
            refine ⟨B, F0, _, _, A3, R3, ?_⟩
            have h := pS.mono s3 h
            have off : ∀ {M2 : Sl} {K : L2.St → Hp → Prop}, (∀ σ' H', Rel G B F0 (upd F' a (.ext (ExAt a C none))) (M2.set i none) σ' H' → K σ' H') → isPin M2 i = false → ∀ σ' H', Rel G B F0 (upd F' a (.ext (ExAt a C none))) M2 σ' H' → K (σ'.set i none) H' := fun {M2 K} hk hp σ' H' ⟨F4, A4, s4, R4⟩ => by
              obtain ⟨A5, _, R5⟩ := R4.drop i none hp
              exact hk _ _ ⟨F4, A5, s4, R5⟩
            cases e2 : x.su (L.set i (some (.v (.exn c [])))) with
            | exc c M2 => rw [e2] at h; exact h.elim
            | stuck => rw [e2] at h; exact h.elim
            | ret o M2 => rw [e2] at h; exact h
            | next M2 =>
              rw [e2] at h
              cases hp : isPin M2 i with
              | true => exact (show False by simp only [offS, hp, if_true] at h; exact h).elim
              | false => exact off (by simp only [offS, hp, Bool.false_eq_true, if_false] at h; exact h) hp
            | brk M2 =>
              rw [e2] at h
              cases hp : isPin M2 i with
              | true => exact (show False by simp only [offS, hp, if_true] at h; exact h).elim
              | false => exact off (by simp only [offS, hp, Bool.false_eq_true, if_false] at h; exact h) hp
            | cont M2 =>
              rw [e2] at h
              cases hp : isPin M2 i with
              | true => exact (show False by simp only [offS, hp, if_true] at h; exact h).elim
              | false => exact off (by simp only [offS, hp, Bool.false_eq_true, if_false] at h; exact h) hp
          · exact h.elim
theorem hGo_C (gr : Γ.Gr G) {D' : Ends} {c : Str} {l : List Hd} (h : pS G W B F0 F (hGo Γ.M l c L) D') : ∃ C, G.mg c = some (.ref C) := by
  cases l with
  | nil => obtain ⟨C, e, _⟩ := h; exact ⟨C, e⟩
  | cons x r =>
    unfold hGo at h
    cases e : lookM Γ.M c x.h with
    | none => rw [e] at h; exact h.elim
    | some b => obtain ⟨C, cv, k1, _⟩ := gr.mt _ (lookM_mem e); exact ⟨C, k1⟩
theorem cs_try (gr : Γ.Gr G) {M : List (Str × Str × Bool)} {body : List Stmt} {h₀ : ExceptHandler} {hds : List ExceptHandler} {l : List Hd} {m : Sl → RS} {pos : Pos} (hM : Γ.M = M) (hc : (Γ.tp && l.all fun x => (Γ.M.any fun p => decide (p.2.1 = x.h)) && (bootBuiltins x.h).isNone) = true) (hb : CSs G Γ body m) (hh : CHs G Γ (h₀ :: hds) l) :
    CS G Γ (.Try body (h₀ :: hds) [] [] pos) (sTry M m l) := by
  subst hM
  obtain ⟨tp, hc⟩ := and2 hc
  have hm : ∀ x ∈ l, ∃ p ∈ Γ.M, p.2.1 = x.h := fun x mx => by
    have := List.all_eq_true.mp hc x mx
    obtain ⟨p, h1, h2⟩ := List.any_eq_true.mp (and2 this).1
    exact ⟨p, h1, of_decide_eq_true h2⟩
  have hbb : ∀ x ∈ l, bootBuiltins x.h = none := fun x mx => by
    have := (and2 (List.all_eq_true.mp hc x mx)).2
    simpa using this
  refine fun X ok W tk => PS.imp (ps_tryX (ok.stk tp).1 (ok.stk tp).2 tk (fun W' pn xe tk' pa => hb _ (ok.tr pa) W' tk') (hdsx_of gr ok hh hm)) fun D σ H h => ?_
  obtain ⟨B, F0, L, F, A, R, h⟩ := h
  refine ⟨B, F0, L, F, A, R, ?_⟩
  unfold sTry at h
  cases e : m L with
  | exc c L' =>
    rw [e] at h
    obtain ⟨C, eC⟩ := hGo_C gr h
    exact ⟨C, eC, fun σ' H' R' => hGo_w gr ok eC hbb R' h⟩
  | _ => rw [e] at h; exact h
end
end Eng
end
section
set_option Elab.async false
set_option linter.all false
set_option maxRecDepth 100000
set_option maxHeartbeats 4000000
namespace Eng
open PySem PySem.Spec PyProof.Rows L2
section
variable {G : Gd} {Γ : Gm} {W : WX} {B : Bd} {F0 F H : Hp} {L : Sl} {A : List Addr} {σ : L2.St}
def anyIs (M : List (Str × Str × Bool)) (c : Str) : List Str → Option Bool
  | [] => some false
  | h :: r => match lookM M c h with
    | none => none
    | some true => some true
    | some false => anyIs M c r
def fIsE (M : List (Str × Str × Bool)) (hs : List Str) : D → Option D
  | .exn c [] => (anyIs M c hs).map .bl
  | _ => none
def clsV : Value → V
  | .ref a => .ref a
  | .type n => .ty n
  | _ => .non
theorem NmCls.v {h : Str} {cv : Value} (n : NmCls G h cv) : RelV (clsV cv) cv ∧ ClsV (clsV cv) cv := by
  rcases n with ⟨C, rfl, e⟩ | ⟨n, rfl, e, e2, _⟩
  · exact ⟨rfl, .own C⟩
  · exact ⟨rfl, .ty n⟩
def nmB (Γ : Gm) (h : Str) : Bool := glB Γ.sc h && !(h == ("__debug__" : Str)) && Γ.M.any fun p => decide (p.2.1 = h)
theorem pe_nm (gr : Γ.Gr G) {X : Cx} (ok : Γ.Ok G X) {h : Str} {p : Pos} (hb : nmB Γ h = true) : PE X (.Name h p) (tC (clsV (clsVal G h))) ∧ NmCls G h (clsVal G h) := by
  obtain ⟨hb, hm⟩ := and2 hb
  obtain ⟨hg, hd⟩ := and2 hb
  obtain ⟨q, m, e⟩ := List.any_eq_true.mp hm
  obtain ⟨C, cv, e1, e2, _⟩ := gr.mt q m
  rw [of_decide_eq_true e] at e2
  have ev := e2.val
  rw [← ev] at e2
  refine ⟨?_, e2⟩
  have r := e2.v.1
  rcases id e2 with ⟨C, q, e⟩ | ⟨n, q, e, e2, nn⟩
  · exact pe_glob (gl_of ok.sc hg) (by rw [ok.mg]; exact e) r (by simpa using hd)
  · exact pe_bltn (gl_of ok.sc hg) (by rw [ok.mg]; exact e) e2 r nn (by simpa using hd)
theorem anyIs_kit (gr : Γ.Gr G) {c : Str} {C : Addr} (eC : G.mg c = some (.ref C)) : ∀ {hs : List Str} {b : Bool}, anyIs Γ.M c hs = some b → PySem.W.kitAny G.K (.ref C) (hs.map (clsVal G)) = some b := by
  intro hs
  induction hs with
  | nil => intro b e; exact e
  | cons h r ih =>
    intro b e
    unfold anyIs at e
    cases q : lookM Γ.M c h with
    | none => rw [q] at e; cases e
    | some k =>
      rw [q] at e
      obtain ⟨C', cv, k1, k2, _, k4⟩ := gr.mt _ (lookM_mem q)
      dsimp only at k1 k2 k4
      rw [eC] at k1; cases k1
      refine kitAny_cons (b := k) (by rw [k2.val]; exact k4) (fun z => ?_) (fun z => ?_)
      · subst z; exact ih e
      · subst z; cases e; rfl
theorem exn_kit (gr : Γ.Gr G) {X : Cx} (ok : Γ.Ok G X) {pins : List (Addr × Obj)} {s : Shared} {x : V} {c : Str} (I : Inv X pins σ H s) (sf : Same F H) (r : Rp G.K G.mg F x (.exn c [])) (hc : c ∈ Γ.Ec) :
    ∃ a C oe, x = .ref a ∧ G.mg c = some (.ref C) ∧ PySem.W.KitX X.K (.ref a) (.ref C) (fun h => PySem.W.InstAt h a oe C none) ∧ PySem.W.InstAt s.heap a oe C none := by
  obtain ⟨C, e1, e2⟩ := gr.ec c hc
  cases r with
  | @exn a C' d _ fs _ h1 h2 h3 h4 =>
    rw [e1] at h2; cases h2
    cases h4
    rcases h3 with ⟨rfl, _⟩ | ⟨dx, rfl, nn, h3⟩
    · obtain ⟨⟨o, vs, q1, q2, q3⟩, _⟩ := I.hok a _ (sf _ _ h1)
      refine ⟨a, C, o, rfl, e1, ?_, ?_⟩
      · rw [ok.K]; exact PySem.W.handS_kitx_exc e2.hg e2.hk e2.hs e2.hd e2.ha e2.hn e2.ht e2.hm
      · obtain ⟨oc, od, oda, osl⟩ := o
        obtain ⟨z1, z2⟩ := q2
        dsimp only at z1 z2 q3
        subst z1 z2 q3
        exact ⟨q1, rfl, rfl, trivial⟩
    · exact absurd rfl nn
theorem isE_call (gr : Γ.Gr G) {X : Cx} (ok : Γ.Ok G X) {pins : List (Addr × Obj)} {s : Shared} {x : V} {v cv : Value} {h : Str} {dx d : D} {Q : VK} (I : Inv X pins σ H s) (rx : RelV x v) (sf : Same F H) (hx : Rp G.K G.mg F x dx) (hn : clsVal G h = cv) (hec : ∀ c b, lookM Γ.M c h = some b → c ∈ Γ.Ec)
    (e : fIsE Γ.M [h] dx = some d) (q : ∀ v F' H', Grow G F H F' H' → Rp G.K G.mg F' v d → Q v H') : wpAny (model X.prog X.w) X.A (call (.builtin "isinstance") [v, cv]) (EP X pins σ Q) X.xe s := by
  unfold fIsE at e
  split at e
  · rename_i c
    obtain ⟨b, e1, rfl⟩ := map_some e
    have mem : c ∈ Γ.Ec := by
      unfold anyIs at e1
      cases z : lookM Γ.M c h with
      | none => rw [z] at e1; cases e1
      | some k => exact hec c k z
    obtain ⟨a, C, oe, rfl, eC, kx, ia⟩ := exn_kit gr ok I sf hx mem
    have k := anyIs_kit gr eC e1
    cases (show v = Value.ref a from rx)
    have k1 : PySem.W.kitOne X.K (.ref C) cv = some b := by
      rw [ok.K, ← hn]
      unfold anyIs at e1
      cases z : lookM Γ.M c h with
      | none => rw [z] at e1; cases e1
      | some y =>
        obtain ⟨C', cv', k1, k2, _, k4⟩ := gr.mt _ (lookM_mem z)
        dsimp only at k1 k2 k4
        rw [eC] at k1; cases k1
        rw [z] at e1
        rw [k2.val, k4]
        cases y <;> exact e1
    exact PySem.W.kia_one kx I.kIn ia k1 (fun z => nomatch z) fun tk => ep_tok I sf q
  · cases e
def exB (Γ : Gm) (h : Str) : Bool := Γ.M.all fun p => !decide (p.2.1 = h) || decide (p.1 ∈ Γ.Ec)
theorem exB_of {h : Str} (e : exB Γ h = true) : ∀ c b, lookM Γ.M c h = some b → c ∈ Γ.Ec := fun c b z => by
  have := List.all_eq_true.mp e _ (lookM_mem z)
  simpa using this
def isEB (Γ : Gm) (h : Str) (a : Expr) : Bool := decide (("isinstance" : Str) ∈ Γ.X) && glB Γ.sc "isinstance" && nst a && nmB Γ h && exB Γ h
theorem ce_isE (gr : Γ.Gr G) {M : List (Str × Str × Bool)} {h : Str} {a : Expr} {m : Sl → R D} {p p2 pos : Pos} (hM : Γ.M = M) (hb : isEB Γ h a = true) (ha : CE G Γ a m) : CE G Γ (.Call (.Name "isinstance" p) [a, .Name h p2] [] pos) (m1 (fIsE M [h]) m) := by
  subst hM
  obtain ⟨hb, h5⟩ := and2 hb
  obtain ⟨hb, h4⟩ := and2 hb
  obtain ⟨hb, hs⟩ := and2 hb
  obtain ⟨h1, h2⟩ := and2 hb
  refine fun X ok W tk => ⟨fun pins s σ H Q I hh => ?_⟩
  obtain ⟨B, F0, L, F, A, R, hh⟩ := hh
  obtain ⟨pn, nc⟩ := pe_nm gr ok (p := p2) h4
  have pa : PA X [a, .Name h p2] (tCons (tE G W m) (tCons (tC (clsV (clsVal G h))) tNil)) := pa_cons (ha X ok W tk) (pa_cons pn pa_nil rfl) (star_cons hs)
  refine wpAny_Call_Name_kw (ld_blt I (gl_of ok.sc h2) (by rw [ok.mg]; exact gr.bl _ (of_decide_eq_true h1)) boot_isinstance ?_ (by decide) (by decide))
  refine PyProof.Rows.callWith_builtin1 (thn (pa.run pos pins s σ H (fun vs H1 => ∃ x, vs = [x, clsV (clsVal G h)] ∧ ∃ F1 dx d, Same F1 H1 ∧ Rp G.K G.mg F1 x dx ∧ fIsE Γ.M [h] dx = some d ∧ ∀ v F' H', Grow G F1 H1 F' H' → Rp G.K G.mg F' v d → Q v H') I ?_) fun us s1 hr => ?_) (star_cons hs) rfl
  · refine ⟨B, F0, L, F, A, R, (pG.bind hh).imp R fun dx F1 H1 s1 R1 g1 h1 v rv => ⟨v, rfl, F1, dx, ?_⟩⟩
    cases e : fIsE Γ.M [h] dx with
    | none => rw [e] at h1; exact h1.elim
    | some d => rw [e] at h1; exact ⟨d, R1.sf, rv, rfl, fun v F' H' g r => h1 F' H' g v r⟩
  · obtain ⟨vs, H1, I1, rvs, x', rfl, F1, dx, d, sf, hx', e, q⟩ := hr
    cases rvs with
    | cons r1 r2 => cases r2 with
      | cons r2 r3 =>
        cases r3
        have := nc.v.2.eq r2
        subst this
        exact isE_call gr ok I1 r1 sf hx' rfl (exB_of h5) e q
def namesOf : List Expr → Option (List Str)
  | [] => some []
  | .Name x _ :: r => (namesOf r).map (x :: ·)
  | _ => none
def tKs (vs : List V) : TA := fun _ H Q => Q vs H
theorem pa_nms (gr : Γ.Gr G) {X : Cx} (ok : Γ.Ok G X) : ∀ {es : List Expr} {hs : List Str}, namesOf es = some hs → hs.all (nmB Γ) = true → PA X es (tKs (hs.map fun h => clsV (clsVal G h))) ∧ (∀ h ∈ hs, NmCls G h (clsVal G h)) ∧ es.length = hs.length
  | [], hs, e, _ => by cases e; exact ⟨PA.imp pa_nil fun _ _ _ q => q, fun _ m => (nomatch m), rfl⟩
  | .Name x p :: r, hs, e, hb => by
    unfold namesOf at e
    obtain ⟨hs', e', rfl⟩ := map_some e
    rw [List.all_cons] at hb
    obtain ⟨b1, b2⟩ := and2 hb
    obtain ⟨p1, n1⟩ := pe_nm gr ok (p := p) b1
    obtain ⟨p2, n2, l2⟩ := pa_nms gr ok e' b2
    exact ⟨PA.imp (pa_cons p1 p2 rfl) fun σ H Q q => q, fun h m => by rcases List.mem_cons.mp m with rfl | m; exact n1; exact n2 h m, congrArg (· + 1) l2⟩
  | .BoolOp .. :: _, _, e, _ => by cases e
  | .NamedExpr .. :: _, _, e, _ => by cases e
  | .BinOp .. :: _, _, e, _ => by cases e
  | .UnaryOp .. :: _, _, e, _ => by cases e
  | .Lambda .. :: _, _, e, _ => by cases e
  | .IfExp .. :: _, _, e, _ => by cases e
  | .Dict .. :: _, _, e, _ => by cases e
  | .Set .. :: _, _, e, _ => by cases e
  | .ListComp .. :: _, _, e, _ => by cases e
  | .SetComp .. :: _, _, e, _ => by cases e
  | .DictComp .. :: _, _, e, _ => by cases e
  | .GeneratorExp .. :: _, _, e, _ => by cases e
  | .Await .. :: _, _, e, _ => by cases e
  | .Yield .. :: _, _, e, _ => by cases e
  | .YieldFrom .. :: _, _, e, _ => by cases e
  | .Compare .. :: _, _, e, _ => by cases e
  | .Call .. :: _, _, e, _ => by cases e
  | .FormattedValue .. :: _, _, e, _ => by cases e
  | .JoinedStr .. :: _, _, e, _ => by cases e
  | .Constant .. :: _, _, e, _ => by cases e
  | .Attribute .. :: _, _, e, _ => by cases e
  | .Subscript .. :: _, _, e, _ => by cases e
  | .Starred .. :: _, _, e, _ => by cases e
  | .List .. :: _, _, e, _ => by cases e
  | .Tuple .. :: _, _, e, _ => by cases e
  | .Slice .. :: _, _, e, _ => by cases e
theorem nms_paired : ∀ {hs : List Str}, (∀ h ∈ hs, NmCls G h (clsVal G h)) → Paired ClsV (hs.map fun h => clsV (clsVal G h)) (hs.map (clsVal G))
  | [], _ => .nil
  | h :: r, n => .cons (n h List.mem_cons_self).v.2 (nms_paired fun x m => n x (List.mem_cons_of_mem _ m))
theorem anyIs_mem {M : List (Str × Str × Bool)} {c : Str} : ∀ {hs : List Str} {b : Bool}, anyIs M c hs = some b → hs ≠ [] → ∃ h ∈ hs, ∃ k, lookM M c h = some k
  | [], _, _, n => absurd rfl n
  | h :: r, b, e, _ => by
    unfold anyIs at e
    cases z : lookM M c h with
    | none => rw [z] at e; cases e
    | some k => exact ⟨h, List.mem_cons_self, k, z⟩
def isTB (Γ : Gm) (es : List Expr) (hs : List Str) (a : Expr) : Bool := decide (("isinstance" : Str) ∈ Γ.X) && glB Γ.sc "isinstance" && nst a && hs.all (nmB Γ) && hs.all (exB Γ) && decide (hs ≠ []) && decide (hs.length ≤ 100) && decide (namesOf es = some hs)
theorem ce_isT (gr : Γ.Gr G) {M : List (Str × Str × Bool)} {hs : List Str} {es : List Expr} {a : Expr} {m : Sl → R D} {kk : Nat} {p p2 pos : Pos} (hM : Γ.M = M) (hb : isTB Γ es hs a = true) (ha : CE G Γ a m) :
    CE G Γ (.Call (.Name "isinstance" p) [a, .Tuple es kk p2] [] pos) (m1 (fIsE M hs) m) := by
  subst hM
  obtain ⟨hb, h8⟩ := and2 hb
  obtain ⟨hb, h7⟩ := and2 hb
  obtain ⟨hb, h6⟩ := and2 hb
  obtain ⟨hb, h5⟩ := and2 hb
  obtain ⟨hb, h4⟩ := and2 hb
  obtain ⟨hb, hst⟩ := and2 hb
  obtain ⟨h1, h2⟩ := and2 hb
  refine fun X ok W tk => ⟨fun pins s σ H Q I hh => ?_⟩
  obtain ⟨B, F0, L, F, A, R, hh⟩ := hh
  obtain ⟨pn, nc, _⟩ := pa_nms gr ok (of_decide_eq_true h8) h4
  have pa : PA X [a, .Tuple es kk p2] (tCons (tE G W m) (tCons (tTup (tKs (hs.map fun h => clsV (clsVal G h)))) tNil)) := pa_cons (ha X ok W tk) (pa_cons (pe_tup pn) pa_nil rfl) (star_cons hst)
  refine wpAny_Call_Name_kw (ld_blt I (gl_of ok.sc h2) (by rw [ok.mg]; exact gr.bl _ (of_decide_eq_true h1)) boot_isinstance ?_ (by decide) (by decide))
  refine PyProof.Rows.callWith_builtin1 (thn (pa.run pos pins s σ H (fun vs H1 => ∃ x tp H0, vs = [x, .ref tp] ∧ H1 = upd H0 tp (.tup (hs.map fun h => clsV (clsVal G h))) ∧ H0 tp = none ∧ ∃ F1 dx d, Same F1 H0 ∧ Rp G.K G.mg F1 x dx ∧ fIsE Γ.M hs dx = some d ∧ ∀ v F' H', Grow G F1 H0 F' H' → Rp G.K G.mg F' v d → Q v H') I ?_) fun us s1 hr => ?_) (star_cons hst) rfl
  · refine ⟨B, F0, L, F, A, R, (pG.bind hh).imp R fun dx F1 H1 s1 R1 g1 h1 v rv => ?_⟩
    refine ⟨by rw [List.length_map]; have := of_decide_eq_true h7; rw [sizeLine_eq]; omega, fun tp htp => ⟨v, tp, H1, rfl, rfl, htp, F1, dx, ?_⟩⟩
    cases e : fIsE Γ.M hs dx with
    | none => rw [e] at h1; exact h1.elim
    | some d => rw [e] at h1; exact ⟨d, R1.sf, rv, rfl, fun v F' H' g r => h1 F' H' g v r⟩
  · obtain ⟨vs, H1, I1, rvs, x', tp, H0, rfl, rfl, htp, F1, dx, d, sf, hx', e, q⟩ := hr
    cases rvs with
    | cons r1 r2 => cases r2 with
      | cons r2 r3 =>
        cases r3
        rename_i u1 u2
        cases (show u2 = Value.ref tp from r2)
        unfold fIsE at e
        split at e
        · rename_i c
          obtain ⟨b, e1, rfl⟩ := map_some e
          obtain ⟨h, mh, k, ek⟩ := anyIs_mem e1 (of_decide_eq_true h6)
          have g1 := Grow.new (G := G) sf (.tup (hs.map fun h => clsV (clsVal G h))) htp
          obtain ⟨a', C, oe, rfl, eC, kx, ia⟩ := exn_kit gr ok I1 g1.le (hx'.mono g1.sF) (exB_of (List.all_eq_true.mp h5 h mh) c k ek)
          cases (show u1 = Value.ref a' from r1)
          obtain ⟨_, its, rv, o, q1, q2, n, q3⟩ := (show ObjOk X.prog X.w _ s1.heap tp (.tup (hs.map fun h => clsV (clsVal G h))) from I1.hok tp _ upd_same)
          have e3 := ClsV.all (nms_paired nc) rv
          subst e3
          obtain ⟨oc, od, dt, sl⟩ := o
          simp only at q2 q3
          subst q2 q3
          exact PySem.W.kia_tup kx I1.kIn ia q1 (by rw [ok.K]; exact anyIs_kit gr eC e1) (fun z => nomatch z) fun tk => ep_tok I1 g1.le fun v F' H' g r => q v F' H' (g1.trans g) r
        · cases e
end
end Eng
end
section
set_option Elab.async false
set_option linter.all false
set_option maxRecDepth 100000
set_option maxHeartbeats 4000000
namespace Eng
open PySem PySem.Spec PyProof.Rows L2
structure MtF (K : PySem.W.Frag) (c h : Str) (b : Bool) : Prop where
  ex : ∃ (C : Addr) (cv : Value), PySem.W.nsIn K mainGlobals c = some (some (.ref C)) ∧ ((∃ D, cv = .ref D ∧ PySem.W.nsIn K mainGlobals h = some (some cv)) ∨ ∃ n, cv = .type n ∧ PySem.W.nsIn K mainGlobals h = some none ∧ bootBuiltins h = some cv ∧ h ≠ "__name__") ∧
    (∀ D, cv = .ref D → PySem.W.exmOne K (.ref C) cv = some b) ∧ PySem.W.kitOne K (.ref C) cv = some b
theorem MtF.mt {G : Gd} {hp : Heap} {c h : Str} {b : Bool} (M : MtF G.K c h b) (X : G.K.In hp) (N : hp.Ns mainGlobals G.mg) :
    ∃ C cv, G.mg (c, h, b).1 = some (.ref C) ∧ NmCls G (c, h, b).2.1 cv ∧ (∀ D, cv = .ref D → PySem.W.exmOne G.K (.ref C) cv = some (c, h, b).2.2) ∧ PySem.W.kitOne G.K (.ref C) cv = some (c, h, b).2.2 := by
  obtain ⟨C, cv, h1, h2, h3, h4⟩ := M.ex
  refine ⟨C, cv, PySem.W.mg_of X N h1, ?_, h3, h4⟩
  rcases h2 with ⟨D, rfl, e⟩ | ⟨n, rfl, e, e2, e3⟩
  · exact .inl ⟨D, rfl, PySem.W.mg_of X N e⟩
  · exact .inr ⟨n, rfl, PySem.W.mg_none_of X N e, e2, e3⟩
structure EcF (K : PySem.W.Frag) (c : Str) : Prop where
  ex : ∃ C : Addr, PySem.W.nsIn K mainGlobals c = some (some (.ref C)) ∧ ExcC K C
theorem EcF.ec {G : Gd} {hp : Heap} {c : Str} (M : EcF G.K c) (X : G.K.In hp) (N : hp.Ns mainGlobals G.mg) : ∃ C, G.mg c = some (.ref C) ∧ ExcC G.K C := by
  obtain ⟨C, h1, h2⟩ := M.ex
  exact ⟨C, PySem.W.mg_of X N h1, h2⟩
end Eng
end
section
set_option Elab.async false
set_option linter.all false
set_option maxRecDepth 100000
set_option maxHeartbeats 4000000
namespace Eng
open PySem PySem.Spec PyProof.Rows L2
section
variable {prog : Program} {w : World} {A : Around} {E : Value → Shared → Prop} {s : Shared}
end
section
variable {Y : Cx} {e : Expr} {te : TE} {p p2 pos pos2 : Pos}
end
section
variable {G : Gd} {Γ : Gm} {W : WX} {B : Bd} {F0 F H : Hp} {L : Sl} {A : List Addr} {σ : L2.St}
theorem RpA.reverse {K : PySem.W.Frag} {mg : Str → Option Value} {F : Hp} : ∀ {vs : List V} {ds : List D}, RpA K mg F vs ds → RpA K mg F vs.reverse ds.reverse
  | _, _, .nil => .nil
  | _, _, .cons r t => by rw [List.reverse_cons, List.reverse_cons]; exact (RpA.reverse t).append (.cons r .nil)
def sThF (i : Nat) (k : Sl → RS) : Sl → RS := fun L => match k L with | .next L' => sFrz i .next L' | r => r
end
end Eng
end
section
set_option Elab.async false
set_option linter.all false
set_option maxRecDepth 100000
set_option maxHeartbeats 4000000
namespace Eng
open PySem PySem.Spec PyProof.Rows L2
section
variable {X : Cx} {pins : List (Addr × Obj)} {σ : L2.St} {H : Hp} {s : Shared} {a : Addr} {kvs : List (Key × V)} {ep : Nat} {t : Nat → Addr × Nat}
def eD (X : Cx) (t : Nat → Addr × Nat) (a : Addr) (kvs : List (Key × V)) (ep : Nat) : HO := .ext (DictE ⟨X.prog, X.w, t⟩ a kvs ep)
end
end Eng
end
section
set_option Elab.async false
set_option linter.all false
set_option maxRecDepth 100000
set_option maxHeartbeats 4000000
namespace Eng
open PySem PySem.Spec PyProof.Rows L2
inductive Stp
  | fld (cs : List Str) (f : Str)
  | at (d : D)
  | un
def lookA {κ : Type} [DecidableEq κ] : List (κ × O) → κ → Option O
  | [], _ => none
  | (x, o) :: r, k => if x = k then some o else lookA r k
def setA {κ : Type} [DecidableEq κ] : List (κ × O) → κ → O → List (κ × O)
  | [], _, _ => []
  | (x, o) :: r, k, q => if x = k then (x, q) :: r else (x, o) :: setA r k q
def O.sub : O → Stp → Option O
  | .ml os, .at (.int i) => atI os i
  | .mt os, .at (.int i) => atI os i
  | .mk os, .at d => (keyD d).bind fun k => lookA os k
  | .mq os, .at (.tup ks) => (keysD ks).bind fun k => lookA os k
  | .mi _ c os, .fld cs f => if c ∈ cs then lookA os f else none
  | .pin o, .un => some o
  | .me _ os, .at d => (keyD d).bind fun k => lookA os k
  | _, _ => none
def O.sput : O → Stp → O → O
  | .ml os, .at (.int i), q => match ixN os.length i with | some j => .ml (os.set j q) | none => .ml os
  | .mt os, .at (.int i), q => match ixN os.length i with | some j => .mt (os.set j q) | none => .mt os
  | .mk os, .at d, q => match keyD d with | some k => .mk (setA os k q) | none => .mk os
  | .mq os, .at (.tup ks), q => match keysD ks with | some k => .mq (setA os k q) | none => .mq os
  | .mi p c os, .fld _ f, q => .mi p c (setA os f q)
  | .pin _, .un, q => .pin q
  | .me n os, .at d, q => match keyD d with | some k => .me n (setA os k q) | none => .me n os
  | o, _, _ => o
def getP : O → List Stp → Option O
  | o, [] => some o
  | o, s :: p => (o.sub s).bind fun o1 => getP o1 p
def putP : O → List Stp → O → O
  | _, [], q => q
  | o, s :: p, q => match o.sub s with | some o1 => o.sput s (putP o1 p q) | none => o
section
variable {tg : Tg} {K : PySem.W.Frag} {mg : Str → Option Value} {F H : Hp}
theorem OwK.look {k : Key} {o : O} : ∀ {vs : List (Key × V)} {os : List (Key × O)} {A : List Addr}, OwK tg K mg F H vs os A → lookA os k = some o →
    ∃ v A1 Ac A2, valV vs k = some v ∧ Ow tg K mg F H v o Ac ∧ A = A1 ++ Ac ++ A2 ∧
      ∀ (F' H' : Hp) (o' : O) (Ac' : List Addr), Same F F' → (∀ a, a ∈ A1 ∨ a ∈ A2 → H' a = H a) → Ow tg K mg F' H' v o' Ac' → OwK tg K mg F' H' vs (setA os k o') (A1 ++ Ac' ++ A2)
  | _, _, _, .nil, e => by cases e
  | _, _, _, .cons (x := x) (v := v) (A := A0) (B := B0) r t, e => by
    unfold lookA at e
    by_cases c : x = k
    · rw [if_pos c] at e; cases e
      refine ⟨v, [], A0, B0, valV_pos c, r, by simp, fun F' H' o' Ac' s q r' => ?_⟩
      unfold setA
      rw [if_pos c]
      exact .cons r' (OwK.mono s (fun a m => q a (.inr m)) t)
    · rw [if_neg c] at e
      obtain ⟨w, A1, Ac, A2, h1, h2, h3, h4⟩ := OwK.look t e
      refine ⟨w, A0 ++ A1, Ac, A2, by rw [valV_neg c]; exact h1, h2, by rw [h3]; simp, fun F' H' o' Ac' s q r' => ?_⟩
      unfold setA
      rw [if_neg c, List.append_assoc, List.append_assoc, ← List.append_assoc A1]
      exact .cons (Ow.mono s (fun a m => q a (.inl (List.mem_append_left _ m))) r) (h4 F' H' o' Ac' s (fun a m => q a (m.imp (List.mem_append_right _) id)) r')
theorem OwT.look {k : List Key} {o : O} : ∀ {vs : List (List Key × V)} {os : List (List Key × O)} {A : List Addr}, OwT tg K mg F H vs os A → lookA os k = some o →
    ∃ v A1 Ac A2, valV vs k = some v ∧ Ow tg K mg F H v o Ac ∧ A = A1 ++ Ac ++ A2 ∧
      ∀ (F' H' : Hp) (o' : O) (Ac' : List Addr), Same F F' → (∀ a, a ∈ A1 ∨ a ∈ A2 → H' a = H a) → Ow tg K mg F' H' v o' Ac' → OwT tg K mg F' H' vs (setA os k o') (A1 ++ Ac' ++ A2)
  | _, _, _, .nil, e => by cases e
  | _, _, _, .cons (x := x) (v := v) (A := A0) (B := B0) r t, e => by
    unfold lookA at e
    by_cases c : x = k
    · rw [if_pos c] at e; cases e
      refine ⟨v, [], A0, B0, valV_pos c, r, by simp, fun F' H' o' Ac' s q r' => ?_⟩
      unfold setA
      rw [if_pos c]
      exact .cons r' (OwT.mono s (fun a m => q a (.inr m)) t)
    · rw [if_neg c] at e
      obtain ⟨w, A1, Ac, A2, h1, h2, h3, h4⟩ := OwT.look t e
      refine ⟨w, A0 ++ A1, Ac, A2, by rw [valV_neg c]; exact h1, h2, by rw [h3]; simp, fun F' H' o' Ac' s q r' => ?_⟩
      unfold setA
      rw [if_neg c, List.append_assoc, List.append_assoc, ← List.append_assoc A1]
      exact .cons (Ow.mono s (fun a m => q a (.inl (List.mem_append_left _ m))) r) (h4 F' H' o' Ac' s (fun a m => q a (m.imp (List.mem_append_right _) id)) r')
theorem OwF.look {k : Str} {o : O} : ∀ {vs : List (Str × V)} {os : List (Str × O)} {A : List Addr}, OwF tg K mg F H vs os A → lookA os k = some o →
    ∃ v A1 Ac A2, vs.lookup k = some v ∧ Ow tg K mg F H v o Ac ∧ A = A1 ++ Ac ++ A2 ∧
      ∀ (F' H' : Hp) (o' : O) (Ac' : List Addr), Same F F' → (∀ a, a ∈ A1 ∨ a ∈ A2 → H' a = H a) → Ow tg K mg F' H' v o' Ac' → OwF tg K mg F' H' vs (setA os k o') (A1 ++ Ac' ++ A2)
  | _, _, _, .nil, e => by cases e
  | _, _, _, .cons (x := x) (v := v) (vs := vs) (A := A0) (B := B0) r t, e => by
    unfold lookA at e
    by_cases c : x = k
    · rw [if_pos c] at e; cases e
      refine ⟨v, [], A0, B0, by rw [List.lookup_cons, c]; simp, r, by simp, fun F' H' o' Ac' s q r' => ?_⟩
      unfold setA
      rw [if_pos c]
      exact .cons r' (OwF.mono s (fun a m => q a (.inr m)) t)
    · rw [if_neg c] at e
      obtain ⟨w, A1, Ac, A2, h1, h2, h3, h4⟩ := OwF.look t e
      refine ⟨w, A0 ++ A1, Ac, A2, by rw [List.lookup_cons, show (k == x) = false from by simpa using fun z => c z.symm]; exact h1, h2, by rw [h3]; simp, fun F' H' o' Ac' s q r' => ?_⟩
      unfold setA
      rw [if_neg c, List.append_assoc, List.append_assoc, ← List.append_assoc A1]
      exact .cons (Ow.mono s (fun a m => q a (.inl (List.mem_append_left _ m))) r) (h4 F' H' o' Ac' s (fun a m => q a (m.imp (List.mem_append_right _) id)) r')
theorem atI_some {α : Type} {xs : List α} {i : Int} {v : α} (h : atI xs i = some v) : ∃ j, ixN xs.length i = some j ∧ xs[j]? = some v := by
  unfold atI at h
  obtain ⟨j, e1, e2⟩ := bind_some h
  exact ⟨j, e1, e2⟩
end
section
variable {G : Gd} {F H : Hp}
def Zp (G : Gd) (F H : Hp) (v0 : V) (o0 : O) (A0 : List Addr) (p : List Stp) (v1 : V) (o1 : O) : Prop :=
  getP o0 p = some o1 ∧ ∃ A1 Ac A2, Ow G.tg G.K G.mg F H v1 o1 Ac ∧ A0 = A1 ++ Ac ++ A2 ∧
    ∀ (F' H' : Hp) (o' : O) (Ac' : List Addr), Same F F' → (∀ a, a ∈ A1 ∨ a ∈ A2 → H' a = H a) → Ow G.tg G.K G.mg F' H' v1 o' Ac' → Ow G.tg G.K G.mg F' H' v0 (putP o0 p o') (A1 ++ Ac' ++ A2)
theorem Zp.nil {v0 : V} {o0 : O} {A0 : List Addr} (r : Ow G.tg G.K G.mg F H v0 o0 A0) : Zp G F H v0 o0 A0 [] v0 o0 :=
  ⟨rfl, [], A0, [], r, by simp, fun F' H' o' Ac' _ _ r' => by simpa [putP] using r'⟩
theorem getP_snoc : ∀ {p : List Stp} {o0 o1 o2 : O} {s : Stp}, getP o0 p = some o1 → o1.sub s = some o2 → getP o0 (p ++ [s]) = some o2
  | [], o0, o1, o2, s, h, e => by
    cases h
    show (o0.sub s).bind (fun o1 => getP o1 []) = _
    rw [e]; rfl
  | t :: p, o0, o1, o2, s, h, e => by
    obtain ⟨q, e1, e2⟩ := bind_some (show (o0.sub t).bind (fun o1 => getP o1 p) = some o1 from h)
    show (o0.sub t).bind (fun o1 => getP o1 (p ++ [s])) = _
    rw [e1]
    exact getP_snoc e2 e
theorem putP_snoc : ∀ {p : List Stp} {o0 o1 o2 q : O} {s : Stp}, getP o0 p = some o1 → o1.sub s = some o2 → putP o0 (p ++ [s]) q = putP o0 p (o1.sput s q)
  | [], o0, o1, o2, q, s, h, e => by
    cases h
    show (match o0.sub s with | some o1 => o0.sput s (putP o1 [] q) | none => o0) = _
    rw [e]; rfl
  | t :: p, o0, o1, o2, q, s, h, e => by
    obtain ⟨w, e1, e2⟩ := bind_some (show (o0.sub t).bind (fun o1 => getP o1 p) = some o1 from h)
    show (match o0.sub t with | some o1 => o0.sput t (putP o1 (p ++ [s]) q) | none => o0) = (match o0.sub t with | some o1 => o0.sput t (putP o1 p (O.sput _ s q)) | none => o0)
    rw [e1]
    dsimp only
    rw [putP_snoc e2 e]
theorem Zp.step {v0 v1 v2 : V} {o0 o1 o2 : O} {A0 : List Addr} {p : List Stp} {s : Stp} (z : Zp G F H v0 o0 A0 p v1 o1) (e : o1.sub s = some o2)
    (h : ∀ A, Ow G.tg G.K G.mg F H v1 o1 A → ∃ A1 Ac A2, Ow G.tg G.K G.mg F H v2 o2 Ac ∧ A = A1 ++ Ac ++ A2 ∧
      ∀ (F' H' : Hp) (o' : O) (Ac' : List Addr), Same F F' → (∀ a, a ∈ A1 ∨ a ∈ A2 → H' a = H a) → Ow G.tg G.K G.mg F' H' v2 o' Ac' → Ow G.tg G.K G.mg F' H' v1 (o1.sput s o') (A1 ++ Ac' ++ A2)) : Zp G F H v0 o0 A0 (p ++ [s]) v2 o2 := by
  obtain ⟨g, A1, Ac, A2, r, ea, up⟩ := z
  obtain ⟨B1, Bc, B2, r2, eb, up2⟩ := h _ r
  refine ⟨getP_snoc g e, A1 ++ B1, Bc, B2 ++ A2, r2, by rw [ea, eb]; simp, fun F' H' o' Ac' sm ag r' => ?_⟩
  rw [putP_snoc g e]
  have := up F' H' (o1.sput s o') _ sm (fun a m => ag a (m.imp (List.mem_append_left _) (List.mem_append_right _))) (up2 F' H' o' Ac' sm (fun a m => ag a (m.imp (List.mem_append_right _) (List.mem_append_left _))) r')
  simpa using this
def PlS (G : Gd) (L : Sl) (A : List Addr) (σ : L2.St) (F H : Hp) (i : Nat) (p : List Stp) (v1 : V) (o1 : O) : Prop :=
  ∃ v0 o0 S1 Ai S2, σ[i]? = some (some v0) ∧ L[i]? = some (some o0) ∧ A = S1 ++ Ai ++ S2 ∧ Zp G F H v0 o0 Ai p v1 o1 ∧
    ∀ (F' H' : Hp) (v' : V) (o' : O) (Ai' : List Addr), Same F F' → (∀ a, a ∈ S1 ∨ a ∈ S2 → H' a = H a) → Ow G.tg G.K G.mg F' H' v' o' Ai' → OwS G.tg G.K G.mg F' H' (σ.set i (some v')) (L.set i (some o')) (S1 ++ Ai' ++ S2)
def stPut (L : Sl) (i : Nat) (p : List Stp) (q : O) : Sl := match L[i]? with | some (some o0) => L.set i (some (putP o0 p q)) | _ => L
variable {B : Bd} {F0 : Hp} {L : Sl} {A : List Addr} {σ : L2.St}
theorem PlS.ow {i : Nat} {p : List Stp} {v1 : V} {o1 : O} (z : PlS G L A σ F H i p v1 o1) : ∃ Ac, Ow G.tg G.K G.mg F H v1 o1 Ac ∧ ∀ a ∈ Ac, a ∈ A := by
  obtain ⟨v0, o0, S1, Ai, S2, h1, h2, h3, ⟨g, A1, Ac, A2, r, ea, up⟩, h5⟩ := z
  exact ⟨Ac, r, fun a m => by rw [h3, ea]; simp [m]⟩
theorem pin_put : ∀ {p : List Stp} {o0 o1 q : O}, getP o0 p = some o1 → pinO q = pinO o1 → pinO (putP o0 p q) = pinO o0
  | [], o0, o1, q, h, e => by cases h; exact e
  | s :: p, o0, o1, q, h, e => by
    obtain ⟨w, e1, e2⟩ := bind_some (show (o0.sub s).bind (fun o1 => getP o1 p) = some o1 from h)
    show pinO (match o0.sub s with | some o1 => o0.sput s (putP o1 p q) | none => o0) = _
    rw [e1]
    dsimp only
    unfold O.sput
    split <;> first | rfl | (split <;> rfl)
theorem PlS.mut {i : Nat} {p : List Stp} {v1 : V} {o1 : O} (z : PlS G L A σ F H i p v1 o1) (R : Rl G B F0 L F A σ H) : ∃ Ac, Ow G.tg G.K G.mg F H v1 o1 Ac ∧ (∀ a ∈ Ac, a ∈ A) ∧ Ac.Nodup ∧
    ∀ (H' : Hp) (o' : O) (Ac' : List Addr), pinO o' = pinO o1 → (∀ x, x ∉ Ac → (∃ u, H x = some u) → H' x = H x) → Ow G.tg G.K G.mg F H' v1 o' Ac' → Ac'.Nodup → (∀ a ∈ Ac', a ∈ Ac ∨ (F a = none ∧ B.h a = none ∧ a ∉ A)) → ∃ A', Rl G B F0 (stPut L i p o') F A' σ H' := by
  obtain ⟨v0, o0, S1, Ai, S2, h1, h2, h3, ⟨g, A1, Ac, A2, r, ea, up⟩, h5⟩ := z
  have e3 : A = (S1 ++ A1) ++ Ac ++ (A2 ++ S2) := by rw [h3, ea]; simp
  have nd := R.nd
  rw [e3] at nd
  have n1 := List.nodup_append.mp nd
  have n2 := List.nodup_append.mp n1.1
  have hi : ∀ a ∈ Ac, a ∈ A := fun a m => by rw [e3]; simp [m]
  have oth : ∀ a, a ∈ S1 ++ A1 ∨ a ∈ A2 ++ S2 → a ∈ A ∧ a ∉ Ac := fun a m => by
    refine ⟨by rw [e3]; rcases m with m | m
               · exact List.mem_append_left _ (List.mem_append_left _ m)
               · exact List.mem_append_right _ m, fun ha => ?_⟩
    rcases m with m | m
    · exact n2.2.2 a m a ha rfl
    · exact n1.2.2 a (List.mem_append_right _ ha) a m rfl
  refine ⟨Ac, r, hi, n2.2.1, fun H' o' Ac' hpo hk ow nd' hA => ?_⟩
  have keep : ∀ a, a ∈ S1 ++ A1 ∨ a ∈ A2 ++ S2 → H' a = H a := fun a m => hk a (oth a m).2 (R.os.tracked a (oth a m).1)
  have q0 := up F H' o' Ac' (.refl _) (fun a m => keep a (m.imp (List.mem_append_right _) (List.mem_append_left _))) ow
  have q := h5 F H' v0 _ _ (.refl _) (fun a m => keep a (m.imp (List.mem_append_left _) (List.mem_append_right _))) q0
  rw [get_set h1] at q
  have eL : stPut L i p o' = L.set i (some (putP o0 p o')) := by unfold stPut; rw [h2]
  rw [eL]
  have eA : S1 ++ (A1 ++ Ac' ++ A2) ++ S2 = (S1 ++ A1) ++ Ac' ++ (A2 ++ S2) := by simp
  rw [eA] at q
  have notA : ∀ a, F a ≠ none → a ∉ Ac := fun a hf m => hf (R.fa a (hi a m)).1
  have notB : ∀ a, B.h a ≠ none → a ∉ Ac := fun a hf m => hf (R.fa a (hi a m)).2
  have sep : ∀ a ∈ Ac', ∀ b, b ∈ S1 ++ A1 ∨ b ∈ A2 ++ S2 → a ≠ b := fun a ha b hb z => by
    subst z
    rcases hA a ha with h | h
    · exact (oth a hb).2 h
    · exact h.2.2 (oth a hb).1
  refine ⟨_, q, ?_, fun a u e => ?_, R.f0, R.sb.mut hk (fun a m => (R.fa a (hi a m)).2) (fun a m => R.os.mut a (hi a m)), R.fb, fun a m => ?_, pn_mut h2 (pin_put g hpo) R.pn⟩
  · refine List.nodup_append.mpr ⟨List.nodup_append.mpr ⟨n2.1, nd', fun a ha b hb z => sep b hb a (.inl ha) z.symm⟩, n1.2.1, fun a ha b hb z => ?_⟩
    rcases List.mem_append.mp ha with ha | ha
    · exact n1.2.2 a (List.mem_append_left _ ha) b hb z
    · exact sep a ha b (.inr hb) z
  · have hu := R.sf a u e
    rw [hk a (notA a (by rw [e]; intro z; cases z)) ⟨u, hu⟩]; exact hu
  · rcases List.mem_append.mp m with m | m
    · rcases List.mem_append.mp m with m | m
      · exact R.fa a (oth a (.inl m)).1
      · rcases hA a m with h | h
        · exact R.fa a (hi a h)
        · exact ⟨h.1, h.2.1⟩
    · exact R.fa a (oth a (.inr m)).1
end
end Eng
end
section
set_option Elab.async false
set_option linter.all false
set_option maxRecDepth 100000
set_option maxHeartbeats 4000000
namespace Eng
open PySem PySem.Spec PyProof.Rows L2
structure Pq where
  i : Nat
  p : List Stp
  o : O
section
variable {G : Gd} {Γ : Gm} {W : WX} {B : Bd} {F0 F H : Hp} {L : Sl} {A : List Addr} {σ : L2.St}
theorem Rl.keep (R : Rl G B F0 L F A σ H) {F1 H1 : Hp} (g : Grow G F H F1 H1) : ∀ a ∈ A, H1 a = H a := fun a m => by
  obtain ⟨u, e, mu⟩ := R.os.mut a m
  rw [e, g.sH.at' _ _ e (mutO_ntbl mu)]
def mVarP (i : Nat) : Sl → R Pq := fun L => match L[i]? with
  | some (some (.pin o)) => .ok ⟨i, [.un], o⟩
  | some (some o) => .ok ⟨i, [], o⟩
  | _ => .stuck
def mFldP (cs : List Str) (f : Str) (m : Sl → R Pq) : Sl → R Pq := fun L => (m L).bind fun q => match q.o.sub (.fld cs f) with | some o => .ok ⟨q.i, q.p ++ [.fld cs f], o⟩ | none => .stuck
def mIxP (m : Sl → R Pq) (k : Sl → R D) : Sl → R Pq := fun L => (m L).bind fun q => (k L).bind fun d => match q.o.sub (.at d) with | some o => .ok ⟨q.i, q.p ++ [.at d], o⟩ | none => .stuck
def mPl (m : Sl → R Pq) : Sl → R D := fun L => (m L).bind fun q => match q.o with | .v d => .ok d | _ => .stuck
def sAppP (mp : Sl → R Pq) (m : Sl → R O) : Sl → RS := sBind mp fun q => match q.o with
  | .ml os => sBind m fun o L => if os.length < sizeLine then .next (stPut L q.i q.p (.ml (os ++ [o]))) else .stuck
  | _ => fun _ => .stuck
def sClrP (mp : Sl → R Pq) : Sl → RS := sBind mp fun q L => match q.o with
  | .ml _ => .next (stPut L q.i q.p (.ml []))
  | _ => .stuck
def sFrE (i : Nat) (k : Sl → RS) : Sl → RS := fun L => match L[i]? with | some (some (.ml os)) => k (L.set i (some (.ml ((O.frA os).map .v)))) | _ => .stuck
end
end Eng
end
section
set_option Elab.async false
set_option linter.all false
set_option maxRecDepth 100000
set_option maxHeartbeats 4000000
namespace Eng
open PySem PySem.Spec PyProof.Rows L2
section
variable {G : Gd} {Γ : Gm}
def fIsT (t : String) : D → Option D
  | .tup ds => if t = "tuple" then some (.bl true) else fIsi t (.tup ds)
  | d => fIsi t d
structure InsF (K : PySem.W.Frag) (c : Str) : Prop where
  ex : ∃ C : Addr, PySem.W.nsIn K mainGlobals c = some (some (.ref C)) ∧ PySem.W.findIn K (.ref C) "__class__" = some (some (.builtin "object.__class__")) ∧
    PySem.W.specialIn K (.builtin "object.__class__") "__get__" = some (some (.builtin "getset_descriptor.__get__")) ∧ PySem.W.takesIn K (.builtin "object.__class__") = some true ∧ PySem.W.mroIn K C (.type "object") = some true
theorem InsF.isc {hp : Heap} {c : Str} {P : Addr → Prop} (M : InsF G.K c) (X : G.K.In hp) (N : hp.Ns mainGlobals G.mg) (h : ∃ C, G.mg c = some (.ref C) ∧ Cls G.K C ∧ P C) : ∃ C v, G.mg c = some (.ref C) ∧ InsC G.K C ∧ RelV v (.ref C) ∧ ClsV v (.ref C) := by
  obtain ⟨C, h1, h2, h3, h4, h5⟩ := M.ex
  obtain ⟨C', e1, e2, _⟩ := h
  have z := PySem.W.mg_of X N h1
  rw [e1] at z; cases z
  exact ⟨C, .ref C, e1, ⟨e2, h2, h3, h4, h5⟩, rfl, .own C⟩
end
end Eng
end
section
set_option Elab.async false
set_option linter.all false
set_option maxRecDepth 100000
set_option maxHeartbeats 4000000
namespace Eng
open PySem PySem.Spec PyProof.Rows L2
section
variable {G : Gd} {Γ : Gm}
def fLenSet : D → Option D
  | .tup ds => (strsD ds).bind fun xs => if xs.length ≤ 1000 then some (.int (dist xs)) else none
  | _ => none
def lenSetB (Γ : Gm) (a : Expr) : Bool := Γ.cm && decide (("len" : Str) ∈ Γ.X) && decide (("set" : Str) ∈ Γ.X) && glB Γ.sc "len" && glB Γ.sc "set" && nst a
theorem ce_lenSet (gr : Γ.Gr G) {a : Expr} {m : Sl → R D} {p p2 q pos : Pos} (h : lenSetB Γ a = true) (ha : CE G Γ a m) : CE G Γ (.Call (.Name "len" p) [.Call (.Name "set" p2) [a] [] q] [] pos) (m1 fLenSet m) := by
  unfold lenSetB at h
  obtain ⟨h, h5⟩ := and2 h
  obtain ⟨h, h4⟩ := and2 h
  obtain ⟨h, h3⟩ := and2 h
  obtain ⟨h1, h2⟩ := and2 h
  obtain ⟨h0, h1⟩ := and2 h1
  refine fun X ok W tk => ⟨fun pins s σ H Q I hq => ?_⟩
  obtain ⟨B, F0, L, F, A, R, hq⟩ := hq
  refine Call_ (ld_blt I (gl_of ok.sc h3) (by rw [ok.mg]; exact gr.bl _ (of_decide_eq_true h1)) boot_len ?_)
  refine PyProof.Rows.callWith_builtin1 (PyProof.Rows.args_cons ?_ rfl) rfl rfl
  refine Call_ (ld_blt I (gl_of ok.sc h4) (by rw [ok.mg]; exact gr.bl _ (of_decide_eq_true h2)) boot_set ?_)
  have hE : tE G W m σ H fun x H1 => ∃ (l : Addr) (xs : List Str), x = .ref l ∧ SqT X.K H1 l (xs.map V.str) ∧ xs.length ≤ 1000 ∧ Q (.int (dist xs)) H1 := by
    refine ⟨B, F0, L, F, A, R, (pG.bind hq).imp R fun d F1 H1 s1 R1 g1 h1 v rv => ?_⟩
    cases d with
    | tup ds =>
      unfold fLenSet at h1; dsimp only at h1
      cases e : strsD ds with
      | none => rw [e] at h1; exact h1.elim
      | some xs =>
        rw [e] at h1
        by_cases c : xs.length ≤ 1000
        · have h2 : pG G W σ F1 H1 (Eng.R.ok (D.int (dist xs))) (fun d F' H' => ∀ v, Rp G.K G.mg F' v d → Q v H') := by
            have : (lift ((some xs).bind fun xs => if xs.length ≤ 1000 then some (D.int (dist xs)) else none) : Eng.R D) = .ok (.int (dist xs)) := by simp [c, lift]
            rw [← this]; exact h1
          cases rv with
          | @tup l us _ hF r1 => exact ⟨l, xs, rfl, by rw [ok.K, ← r1.strsD e]; exact R1.sf.tq hF, c, h2 F1 H1 (.refl R1.sf) _ (.int _)⟩
        · have : (lift ((some xs).bind fun xs => if xs.length ≤ 1000 then some (D.int (dist xs)) else none) : Eng.R D) = .stuck := by simp [c, lift]
          rw [this] at h1; exact h1.elim
    | _ => exact h1.elim
  refine PyProof.Rows.callWith_type1 (PyProof.Rows.args_cons (thn ((ha X ok W tk).run pins s σ H _ I hE) fun v s1 ⟨x, H1, I1, r1, q1⟩ => PyProof.Rows.args_nil ?_) (star_cons h5)) (star_cons h5) rfl
  obtain ⟨l, xs, rfl, sq, few, q1⟩ := q1
  cases r1
  obtain ⟨its, r, pl, hz⟩ := I1.tuple sq
  refine set_of_tup xs (I1.ok.hd (ok.calm h0)) pl (by simpa using strsAre_of r) (by show xs.length + 1 < 4096; omega) fun h' tk hS hk => ?_
  refine PyProof.Rows.args_nil ?_
  obtain ⟨o, es, ep, t, ho, hex, hd, _, _, _, hf, hn⟩ := hS
  have bd : dist xs ≤ xs.length := by have := distR_le xs.reverse; rw [List.length_reverse] at this; exact this
  have I2 : Inv X pins σ H1 { s1 with heap := h', toks := tk } := I1.kept fun b o e => hk b o e
  exact call_len_set ho hex hd hf (by rw [hn]; omega) ⟨.int (dist xs), H1, I2.tok _, ⟨_, by rw [hn]⟩, q1⟩
end
end Eng
end
section
set_option Elab.async false
set_option linter.all false
set_option maxRecDepth 100000
set_option maxHeartbeats 4000000
namespace Eng
open PySem PySem.Spec L2
@[simp] theorem bind_ok {α β : Type} {a : α} {k : α → R β} : R.bind (.ok a) k = k a := by rfl
@[simp] theorem bind_exc {α β : Type} {c : Str} {k : α → R β} : R.bind (.exc c) k = .exc c := by rfl
@[simp] theorem bind_stuck {α β : Type} {k : α → R β} : R.bind .stuck k = .stuck := by rfl
@[simp] theorem lift_some {α : Type} {a : α} : lift (some a) = .ok a := by rfl
@[simp] theorem lift_none {α : Type} : lift (none : Option α) = .stuck := by rfl
@[simp] theorem ap_mC {d : D} {L : Sl} : mC d L = .ok d := by rfl
@[simp] theorem ap_var0 {d : D} {L : Sl} : mVar 0 (some (.v d) :: L) = .ok d := by rfl
@[simp] theorem ap_varS {i : Nat} {x : Option O} {L : Sl} : mVar (i + 1) (x :: L) = mVar i L := by rfl
@[simp] theorem ap_m2 {f : D → D → Option D} {a b : Sl → R D} {L : Sl} : m2 f a b L = (a L).bind fun x => (b L).bind fun y => lift (f x y) := by rfl
@[simp] theorem ap_m1 {f : D → Option D} {a : Sl → R D} {L : Sl} : m1 f a L = (a L).bind fun x => lift (f x) := by rfl
@[simp] theorem ap_mB {a : Sl → R D} {L : Sl} : mB a L = (a L).bind fun d => lift (asB d) := by rfl
@[simp] theorem ap_mF {f : List D → Option D} {a : Sl → R (List D)} {L : Sl} : mF f a L = (a L).bind fun d => lift (f d) := by rfl
@[simp] theorem ap_mNil {L : Sl} : mNil L = .ok [] := by rfl
@[simp] theorem ap_mCons {a : Sl → R D} {b : Sl → R (List D)} {L : Sl} : mCons a b L = (a L).bind fun x => (b L).bind fun xs => .ok (x :: xs) := by rfl
@[simp] theorem ap_mTup {a : Sl → R (List D)} {L : Sl} : mTup a L = (a L).bind fun ds => if ds.length ≤ 16777216 then .ok (.tup ds) else .stuck := by rfl
@[simp] theorem ap_mLst {a : Sl → R (List D)} {L : Sl} : mLst a L = (a L).bind fun ds => if ds.length ≤ 16777216 then .ok (.ml (ds.map .v)) else .stuck := by rfl
@[simp] theorem ap_mV {m : Sl → R D} {L : Sl} : mV m L = (m L).bind fun d => .ok (.v d) := by rfl
@[simp] theorem ap_mFO {f : List D → Option O} {m : Sl → R (List D)} {L : Sl} : mFO f m L = (m L).bind fun d => lift (f d) := by rfl
@[simp] theorem ap_mFr {a : Sl → R O} {L : Sl} : mFr a L = (a L).bind fun o => .ok o.fr := by rfl
@[simp] theorem ap_mCall {f : List D → R O} {a : Sl → R (List D)} {L : Sl} : mCall f a L = (a L).bind f := by rfl
@[simp] theorem ap_mIf {α : Type} {c : Sl → R Bool} {a b : Sl → R α} {L : Sl} : mIf c a b L = (c L).bind fun x => if x = true then a L else b L := by rfl
@[simp] theorem ap_mAnd {a b : Sl → R Bool} {L : Sl} : mAnd a b L = (a L).bind fun x => if x = true then b L else .ok false := by rfl
@[simp] theorem ap_mOr {a b : Sl → R Bool} {L : Sl} : mOr a b L = (a L).bind fun x => if x = true then .ok true else b L := by rfl
@[simp] theorem ap_mNot {a : Sl → R Bool} {L : Sl} : mNot a L = (a L).bind fun x => .ok (!x) := by rfl
@[simp] theorem ap_vAnd {a b : Sl → R D} {L : Sl} : vAnd a b L = (a L).bind fun x => (lift (asB x)).bind fun k => if k = true then b L else .ok (.bl false) := by rfl
@[simp] theorem ap_vOr {a b : Sl → R D} {L : Sl} : vOr a b L = (a L).bind fun x => (lift (asB x)).bind fun k => if k = true then .ok (.bl true) else b L := by rfl
@[simp] theorem ap_vNot {a : Sl → R D} {L : Sl} : vNot a L = (a L).bind fun x => (lift (asB x)).bind fun k => .ok (.bl (!k)) := by rfl
@[simp] theorem ap_mCh {f g : D → D → Option D} {a b c : Sl → R D} {L : Sl} : mCh f g a b c L = (a L).bind fun x => (b L).bind fun y => (lift (f x y)).bind fun z => (lift (asB z)).bind fun k => if k = true then (c L).bind fun w => lift (g y w) else .ok (.bl false) := by rfl
@[simp] theorem ap_mSl {m : Sl → R D} {lo hi : Sl → R (Option Int)} {L : Sl} : mSl m lo hi L = (m L).bind fun x => (lo L).bind fun i => (hi L).bind fun j => lift (fSl x i j) := by rfl
@[simp] theorem ap_mNoP {L : Sl} : mNoP L = .ok none := by rfl
@[simp] theorem ap_mP {m : Sl → R D} {L : Sl} : mP m L = (m L).bind fun d => (lift (asI d)).bind fun i => .ok (some i) := by rfl
@[simp] theorem ap_mS1 {f : D → D → Option D} {a b : Sl → R D} {L : Sl} : mS1 f a b L = (a L).bind fun x => (lift (asS x)).bind fun _ => (b L).bind fun y => lift (f x y) := by rfl
@[simp] theorem ap_mIt {m : Sl → R D} {L : Sl} : mIt m L = (m L).bind fun d => lift (itemsD d) := by rfl
@[simp] theorem ap_mRg1 {m : Sl → R D} {L : Sl} : mRg1 m L = (m L).bind fun d => lift (rng1 d) := by rfl
@[simp] theorem ap_mRg2 {a b : Sl → R D} {L : Sl} : mRg2 a b L = (a L).bind fun x => (b L).bind fun y => lift (rng2 x y) := by rfl
@[simp] theorem ap_mEn {m : Sl → R D} {L : Sl} : mEn m L = (m L).bind fun d => lift ((lstD d).map enumD) := by rfl
@[simp] theorem ap_mZip {a b : Sl → R D} {L : Sl} : mZip a b L = (a L).bind fun x => (b L).bind fun y => lift ((lstD x).bind fun xs => (lstD y).map fun ys => zipD xs ys) := by rfl
@[simp] theorem ap_mYes {L : Sl} : mYes L = .ok true := by rfl
@[simp] theorem ap_vT {α : Type} {m : Sl → R α} {L : Sl} : vT m L = m (frL L) := by rfl
@[simp] theorem ap_vE {m : Sl → R D} {L : Sl} : vE m L = (m (frL L)).bind fun d => if vOk L d.pl = true then .ok d else .stuck := by rfl
@[simp] theorem ap_vO {m : Sl → R O} {L : Sl} : vO m L = (m (frL L)).bind fun d => if vOk L d.pl = true then .ok d else .stuck := by rfl
@[simp] theorem asB_bl {b : Bool} : asB (.bl b) = some b := by rfl
@[simp] theorem asI_int {b : Int} : asI (.int b) = some b := by rfl
@[simp] theorem asS_str {b : Str} : asS (.str b) = some b := by rfl
@[simp] theorem lstD_lst {b : List D} : lstD (.lst b) = some b := by rfl
@[simp] theorem items_lst {b : List D} : itemsD (.lst b) = some b := by rfl
@[simp] theorem items_tup {b : List D} : itemsD (.tup b) = some b := by rfl
@[simp] theorem items_str {b : Str} : itemsD (.str b) = some (signs b) := by rfl
def seqR (r : RS) (b : Sl → RS) : RS := match r with | .next L => b L | r => r
def bindS {α : Type} (r : R α) (k : α → Sl → RS) (L : Sl) : RS := match r with | .ok a => k a L | .exc c => .exc c L | .stuck => .stuck
@[simp] theorem ap_sSeq {a b : Sl → RS} {L : Sl} : sSeq a b L = seqR (a L) b := by rfl
@[simp] theorem seq_next {b : Sl → RS} {L : Sl} : seqR (.next L) b = b L := by rfl
@[simp] theorem seq_ret {b : Sl → RS} {o : O} {L : Sl} : seqR (.ret o L) b = .ret o L := by rfl
@[simp] theorem seq_exc {b : Sl → RS} {c : Str} {L : Sl} : seqR (.exc c L) b = .exc c L := by rfl
@[simp] theorem seq_brk {b : Sl → RS} {L : Sl} : seqR (.brk L) b = .brk L := by rfl
@[simp] theorem seq_cont {b : Sl → RS} {L : Sl} : seqR (.cont L) b = .cont L := by rfl
@[simp] theorem bs_ok {α : Type} {a : α} {k : α → Sl → RS} {L : Sl} : bindS (.ok a) k L = k a L := by rfl
@[simp] theorem bs_exc {α : Type} {c : Str} {k : α → Sl → RS} {L : Sl} : bindS (.exc c) k L = .exc c L := by rfl
@[simp] theorem ap_sNext {L : Sl} : sNext L = .next L := by rfl
@[simp] theorem ap_sSet {i : Nat} {m : Sl → R D} {L : Sl} : sSet i m L = bindS (m L) (fun d L => if okSet L i = true then .next (L.set i (some (.v d))) else .stuck) L := by rfl
@[simp] theorem ap_sSetO {i : Nat} {m : Sl → R O} {L : Sl} : sSetO i m L = bindS (m L) (fun d L => if okSet L i = true then .next (L.set i (some d)) else .stuck) L := by rfl
@[simp] theorem ap_sRet {m : Sl → R D} {L : Sl} : sRet m L = bindS (m L) (fun d L => .ret (.v d) L) L := by rfl
@[simp] theorem ap_sRetO {m : Sl → R O} {L : Sl} : sRetO m L = bindS (m L) (fun d L => .ret d L) L := by rfl
@[simp] theorem ap_sRetN {L : Sl} : sRetN L = .ret (.v .non) L := by rfl
@[simp] theorem ap_sIf {c : Sl → R Bool} {a b : Sl → RS} {L : Sl} : sIf c a b L = bindS (c L) (fun x L => if x = true then a L else b L) L := by rfl
@[simp] theorem ap_sRaise {c : Str} {L : Sl} : sRaise c L = .exc c L := by rfl
@[simp] theorem ap_sFor {it : Sl → R (List D)} {tg : D → Sl → Option Sl} {body : Sl → RS} {L : Sl} : sFor it tg body L = bindS (it L) (fun ds L => forGo tg body L ds) L := by rfl
@[simp] theorem ap_sTg {g : D → Sl → Option Sl} {m : Sl → R D} {L : Sl} : sTg g m L = bindS (m L) (fun d L => match g d L with | some L' => .next L' | none => .stuck) L := by rfl
@[simp] theorem ap_mLc {it : Sl → R (List D)} {vs : List Nat} {tg : D → Sl → Option Sl} {tst : Sl → R Bool} {el : Sl → R D} {L : Sl} : mLc it vs tg tst el L = (it L).bind fun ds => if ds.length ≤ 16777216 ∧ okW L vs = true then (match lcGo tg tst el (wipeL L vs) ds with | .ok es => .ok (.ml (es.map .v)) | _ => .stuck) else .stuck := by rfl
@[simp] theorem ap_out_ret {o : O} {L : Sl} : out (.ret o L) = .ok o := by rfl
@[simp] theorem ap_out_next {L : Sl} : out (.next L) = .ok (.v .non) := by rfl
@[simp] theorem ap_out_exc {c : Str} {L : Sl} : out (.exc c L) = .exc c := by rfl
@[simp] theorem frA_v {xs : List D} : O.frA (xs.map .v) = xs := by induction xs with | nil => rfl | cons x xs ih => show x :: O.frA (xs.map .v) = x :: xs; rw [ih]
theorem fr_ml {xs : List D} : (O.ml (xs.map .v)).fr = .lst xs := by show D.lst (O.frA (xs.map .v)) = _; rw [frA_v]
@[simp] theorem fr_v {d : D} : (O.v d).fr = d := by rfl
@[simp] theorem ok_S {x : Option O} {L : Sl} {i : Nat} : okSet (x :: L) (i + 1) = okSet L i := by simp [okSet, isPin]
@[simp] theorem ok_0n {L : Sl} : okSet (none :: L) 0 = true := by rfl
@[simp] theorem ok_0v {L : Sl} {d : D} : okSet (some (.v d) :: L) 0 = true := by rfl
@[simp] theorem ok_0l {L : Sl} {d : List O} : okSet (some (.ml d) :: L) 0 = true := by rfl
@[simp] theorem ok_0t {L : Sl} {d : List (Key × O)} : okSet (some (.mk d) :: L) 0 = true := by rfl
@[simp] theorem ok_0q {L : Sl} {d : List (List Key × O)} : okSet (some (.mq d) :: L) 0 = true := by rfl
@[simp] theorem ok_0i {L : Sl} {c : Str} {d : List (Str × O)} {p : Bool} : okSet (some (.mi p c d) :: L) 0 = !p := by cases p <;> rfl
@[simp] theorem okW_nil {L : Sl} : okW L [] = true := by rfl
@[simp] theorem okW_cons {L : Sl} {i : Nat} {vs : List Nat} : okW L (i :: vs) = (!isPin L i && okW L vs) := by rfl
@[simp] theorem pin_S {x : Option O} {L : Sl} {i : Nat} : isPin (x :: L) (i + 1) = isPin L i := by simp [isPin]
@[simp] theorem pin_0n {L : Sl} : isPin (none :: L) 0 = false := by rfl
@[simp] theorem pin_0v {L : Sl} {d : D} : isPin (some (.v d) :: L) 0 = false := by rfl
@[simp] theorem pin_0l {L : Sl} {d : List O} : isPin (some (.ml d) :: L) 0 = false := by rfl
@[simp] theorem pin_0t {L : Sl} {d : List (Key × O)} : isPin (some (.mk d) :: L) 0 = false := by rfl
@[simp] theorem pin_0q {L : Sl} {d : List (List Key × O)} : isPin (some (.mq d) :: L) 0 = false := by rfl
@[simp] theorem pin_0i {L : Sl} {c : Str} {d : List (Str × O)} {p : Bool} : isPin (some (.mi p c d) :: L) 0 = p := by rfl
@[simp] theorem ap_put {i : Nat} {d : D} {L : Sl} : put i d L = if okSet L i = true then some (L.set i (some (.v d))) else none := by rfl
@[simp] theorem wipe_nil {L : Sl} : wipeL L [] = L := by rfl
@[simp] theorem fAdd_ii {i j : Int} : fAdd (.int i) (.int j) = some (.int (i + j)) := by rfl
@[simp] theorem fSub_ii {i j : Int} : fSub (.int i) (.int j) = some (.int (i - j)) := by rfl
theorem fMul_ii {i j : Int} (h : mulOk i j) : fMul (.int i) (.int j) = some (.int (i * j)) := if_pos h
@[simp] theorem fDiv_ii {i j : Int} (h : 0 < j ∧ j < 18446744073709551616) : fDiv (.int i) (.int j) = some (.int (i / j)) := if_pos h
@[simp] theorem fMod_ii {i j : Int} (h : 0 < j) : fMod (.int i) (.int j) = some (.int (i % j)) := if_pos h
@[simp] theorem fEq_ii {i j : Int} : fEq (.int i) (.int j) = some (.bl (decide (i = j))) := by rfl
@[simp] theorem fEq_ss {i j : Str} : fEq (.str i) (.str j) = some (.bl (decide (i = j))) := by rfl
@[simp] theorem fEq_bb {i j : Bool} : fEq (.bl i) (.bl j) = some (.bl (decide (i = j))) := by rfl
@[simp] theorem fNe_ii {i j : Int} : fNe (.int i) (.int j) = some (.bl (!decide (i = j))) := by rfl
@[simp] theorem fNe_ss {i j : Str} : fNe (.str i) (.str j) = some (.bl (!decide (i = j))) := by rfl
@[simp] theorem fNe_bb {i j : Bool} : fNe (.bl i) (.bl j) = some (.bl (!decide (i = j))) := by rfl
@[simp] theorem fLt_ii {i j : Int} : fLt (.int i) (.int j) = some (.bl (decide (i < j))) := by rfl
@[simp] theorem fGt_ii {i j : Int} : fGt (.int i) (.int j) = some (.bl (decide (j < i))) := by rfl
@[simp] theorem fLe_ii {i j : Int} : fLe (.int i) (.int j) = some (.bl (!decide (j < i))) := by rfl
@[simp] theorem fGe_ii {i j : Int} : fGe (.int i) (.int j) = some (.bl (!decide (i < j))) := by rfl
theorem lcGo_map {tg : D → Sl → Option Sl} {el : Sl → R D} {L : Sl} {α : Type} {f : α → D} {g : α → D} : ∀ {xs : List α}, (∀ x ∈ xs, ∃ L', tg (f x) L = some L' ∧ el L' = .ok (g x)) → lcGo tg mYes el L (xs.map f) = .ok (xs.map g)
  | [], _ => rfl
  | x :: xs, h => by
    obtain ⟨L', e1, e2⟩ := h x List.mem_cons_self
    have e3 := lcGo_map (f := f) (g := g) (xs := xs) fun z m => h z (List.mem_cons_of_mem _ m)
    rw [List.map_cons, List.map_cons]
    unfold lcGo
    rw [e1, lift_some, bind_ok, ap_mYes, bind_ok, if_pos rfl, e2, bind_ok, e3, bind_ok]
theorem lcGo_filter {tg : D → Sl → Option Sl} {tst : Sl → R Bool} {el : Sl → R D} {L : Sl} {α : Type} {f : α → D} {p : α → Bool} {g : α → D} : ∀ {xs : List α}, (∀ x ∈ xs, ∃ L', tg (f x) L = some L' ∧ tst L' = .ok (p x) ∧ (p x = true → el L' = .ok (g x))) → lcGo tg tst el L (xs.map f) = .ok ((xs.filter p).map g)
  | [], _ => rfl
  | x :: xs, h => by
    obtain ⟨L', e1, e2, e4⟩ := h x List.mem_cons_self
    have e3 := lcGo_filter (f := f) (g := g) (p := p) (xs := xs) fun z m => h z (List.mem_cons_of_mem _ m)
    rw [List.map_cons, List.filter_cons]
    unfold lcGo
    rw [e1, lift_some, bind_ok, e2, bind_ok]
    cases hp : p x with
    | true => rw [if_pos rfl, if_pos rfl, e4 hp, bind_ok, e3, bind_ok]; rfl
    | false => rw [if_neg Bool.false_ne_true, if_neg Bool.false_ne_true, e3]
end Eng
end
section
set_option Elab.async false
set_option linter.all false
set_option maxRecDepth 100000
set_option maxHeartbeats 4000000
namespace Eng
open PySem PySem.Spec L2
@[simp] theorem frA_nil : O.frA [] = [] := by rfl
@[simp] theorem frA_cons {o : O} {os : List O} : O.frA (o :: os) = o.fr :: O.frA os := by rfl
@[simp] theorem fr_ml2 {os : List O} : (O.ml os).fr = .lst (O.frA os) := by rfl
@[simp] theorem ok_0m {L : Sl} {d : Option D} : okSet (d.map O.v :: L) 0 = true := by cases d <;> rfl
@[simp] theorem pin_0m {L : Sl} {d : Option D} : isPin (d.map O.v :: L) 0 = false := by cases d <;> rfl
@[simp] theorem wipe_cons {L : Sl} {v : Nat} {vs : List Nat} : wipeL L (v :: vs) = (wipeL L vs).set v none := by rfl
@[simp] theorem ap_putCons {m : D → Sl → Option Sl} {r : List D → Sl → Option Sl} {d : D} {ds : List D} {L : Sl} : putCons m r (d :: ds) L = (m d L).bind (r ds) := by rfl
@[simp] theorem ap_putNil {L : Sl} : putNil [] L = some L := by rfl
@[simp] theorem frA_vc {α : Type} {f : α → D} {xs : List α} : O.frA (xs.map (O.v ∘ f)) = xs.map f := by rw [← List.map_map]; exact frA_v
theorem atI_nn {α : Type} {xs : List α} {i : Int} (h : 0 ≤ i) (h2 : i < xs.length) : atI xs i = xs[i.toNat]? := by
  unfold atI ixN
  rw [if_pos h, if_pos h2]; rfl
def nth (ns : List Int) (i : Int) : Int := ns.getD i.toNat 0
theorem nth_all {P : Int → Prop} {ns : List Int} {i : Int} (h : ∀ n ∈ ns, P n) (h0 : P 0) : P (nth ns i) := by
  unfold nth
  rw [List.getD]
  cases e : ns[i.toNat]? with
  | none => exact h0
  | some x => exact h _ (List.mem_of_getElem? e)
theorem atI_int {ns : List Int} {i : Int} (h : 0 ≤ i) (h2 : i < ns.length) : atI (ns.map D.int) i = some (.int (nth ns i)) := by
  unfold nth
  rw [atI_nn h (by simpa using h2), List.getElem?_map, List.getD, List.getElem?_eq_getElem (by omega)]; rfl
@[simp] theorem fIx_l {ds : List D} {i : Int} : fIx (.lst ds) (.int i) = atI ds i := by rfl
@[simp] theorem fIx_t {ds : List D} {i : Int} : fIx (.tup ds) (.int i) = atI ds i := by rfl
theorem fIx_ints {ds : List D} {ns : List Int} {i : Int} (e : intsD ds = some ns) (h : 0 ≤ i) (h2 : i < ns.length) : atI ds i = some (.int (nth ns i)) := by
  have : ds = ns.map D.int := by
    clear h h2
    induction ds generalizing ns with
    | nil => cases e; rfl
    | cons d ds ih => cases d with
      | int j =>
        unfold intsD at e
        cases e1 : intsD ds with
        | none => rw [e1] at e; cases e
        | some ms => rw [e1] at e; cases e; rw [List.map_cons, ih e1]
      | _ => unfold intsD at e; cases e
  rw [this, atI_int h h2]
theorem fIx_s {z : Str} {i : Int} : fIx (.str z) (.int i) = if z.length ≤ 16777216 then (atI z.cps.toList i).map fun c => .str ⟨#[c]⟩ else none := rfl
def sgn (z : Str) (i : Int) : Str := ⟨#[z.cps.toList.getD i.toNat 0]⟩
@[simp] theorem sgn_len {z : Str} {i : Int} : (sgn z i).length = 1 := by rfl
theorem fIx_sn {z : Str} {i : Int} (h : 0 ≤ i) (h2 : i < z.length) (hs : z.length ≤ 16777216) : fIx (.str z) (.int i) = some (.str (sgn z i)) := by
  unfold sgn
  have e : z.length = z.cps.toList.length := rfl
  rw [fIx_s, if_pos hs, atI_nn h (by rw [← e]; exact h2), List.getD, List.getElem?_eq_getElem (by omega)]; rfl
theorem fIx_lit {z : Str} {i : Int} {n : Nat} (e : z.length = n) (hn : n ≤ 1000) (h : 0 ≤ i) (h2 : i < n) : fIx (.str z) (.int i) = some (.str (sgn z i)) := fIx_sn h (by omega) (by omega)
theorem abc_len : (Str.ofString "abcdefghijklmnopqrstuvwxyz").length = 26 := by decide
theorem fIx_abc {i : Int} (h : 0 ≤ i) (h2 : i < 26) : fIx (.str (Str.ofString "abcdefghijklmnopqrstuvwxyz")) (.int i) = some (.str (sgn (Str.ofString "abcdefghijklmnopqrstuvwxyz") i)) := fIx_lit abc_len (by decide) h h2
@[simp] theorem fLen_s {z : Str} : fLen [.str z] = if z.length ≤ 16777216 then some (.int z.length) else none := by rfl
@[simp] theorem fLen_l {z : List D} : fLen [.lst z] = some (.int z.length) := by rfl
@[simp] theorem fLen_t {z : List D} : fLen [.tup z] = some (.int z.length) := by rfl
@[simp] theorem fAdd_ss {x y : Str} : fAdd (.str x) (.str y) = if x.length + y.length ≤ 16777216 then some (.str (x ++ y)) else none := by rfl
@[simp] theorem fAdd_ll {x y : List D} : fAdd (.lst x) (.lst y) = if x.length + y.length ≤ 16777216 then some (.lst (x ++ y)) else none := by rfl
@[simp] theorem fAdd_tt {x y : List D} : fAdd (.tup x) (.tup y) = if x.length + y.length ≤ 16777216 then some (.tup (x ++ y)) else none := by rfl
theorem len_app (x y : Str) : (x ++ y).length = x.length + y.length := by
  show ((x.cps ++ y.cps).size) = x.cps.size + y.cps.size
  exact Array.size_append
@[simp] theorem len_cut {z : Str} {a b : Option Int} : (cutS z a b).length ≤ z.length := by
  show ((z.cps.toList.drop _).take _).toArray.size ≤ z.cps.size
  rw [List.size_toArray, List.length_take, List.length_drop]
  have : z.cps.toList.length = z.cps.size := rfl
  omega
@[simp] theorem fSl_s {z : Str} {a b : Option Int} : fSl (.str z) a b = if z.length ≤ 16777216 then some (.str (cutS z a b)) else none := by rfl
@[simp] theorem fSl_l {z : List D} {a b : Option Int} : fSl (.lst z) a b = some (.lst (cut z a b)) := by rfl
@[simp] theorem fSl_t {z : List D} {a b : Option Int} : fSl (.tup z) a b = some (.tup (cut z a b)) := by rfl
theorem strs_map {zs : List Str} : strsD (zs.map D.str) = some zs := by
  induction zs with
  | nil => rfl
  | cons z zs ih => show (strsD (zs.map D.str)).map (z :: ·) = _; rw [ih]; rfl
theorem bools_map {zs : List Bool} : boolsD (zs.map D.bl) = some zs := by
  induction zs with
  | nil => rfl
  | cons z zs ih => show (boolsD (zs.map D.bl)).map (z :: ·) = _; rw [ih]; rfl
theorem fIn_1 {c : Nat} {t : Str} : fIn (.str ⟨#[c]⟩) (.str t) = some (.bl (decide (c ∈ t.cps.toList))) := rfl
theorem fNin_1 {c : Nat} {t : Str} : fNin (.str ⟨#[c]⟩) (.str t) = some (.bl (!decide (c ∈ t.cps.toList))) := rfl
@[simp] theorem isi_bb {b : Bool} : fIsi "bool" (.bl b) = some (.bl true) := by rfl
@[simp] theorem isi_bi {b : Int} : fIsi "bool" (.int b) = some (.bl false) := by rfl
@[simp] theorem isi_bs {b : Str} : fIsi "bool" (.str b) = some (.bl false) := by rfl
@[simp] theorem isi_bn : fIsi "bool" .non = some (.bl false) := by rfl
@[simp] theorem isi_ib {b : Bool} : fIsi "int" (.bl b) = some (.bl true) := by rfl
@[simp] theorem isi_ii {b : Int} : fIsi "int" (.int b) = some (.bl true) := by rfl
@[simp] theorem isi_is {b : Str} : fIsi "int" (.str b) = some (.bl false) := by rfl
@[simp] theorem isi_in : fIsi "int" .non = some (.bl false) := by rfl
@[simp] theorem isi_sb {b : Bool} : fIsi "str" (.bl b) = some (.bl false) := by rfl
@[simp] theorem isi_si {b : Int} : fIsi "str" (.int b) = some (.bl false) := by rfl
@[simp] theorem isi_ss {b : Str} : fIsi "str" (.str b) = some (.bl true) := by rfl
@[simp] theorem isi_sn : fIsi "str" .non = some (.bl false) := by rfl
theorem rng1_ok {j : Int} (h : j < 4611686018427387904 ∧ -4611686018427387904 ≤ j) : rng1 (.int j) = some (rng 0 j.toNat) := if_pos ⟨h.2, h.1⟩
theorem rng2_ok {i j : Int} (g : i < 4611686018427387904 ∧ -4611686018427387904 ≤ i) (h : j < 4611686018427387904 ∧ -4611686018427387904 ≤ j) : rng2 (.int i) (.int j) = some (rng i (j - i).toNat) := if_pos ⟨⟨g.2, g.1⟩, ⟨h.2, h.1⟩⟩
@[simp] theorem rng_len {i : Int} {n : Nat} : (rng i n).length = n := by unfold rng; rw [List.length_map, List.length_range]
@[simp] theorem signs_len {z : Str} : (signs z).length = z.length := by unfold signs; rw [List.length_map]; rfl
theorem join_len0 {zs : List Str} : (Txt.join "" zs).length = (zs.map (·.length)).sum := by
  show (PySem.Builtin.Str.glued "" zs).length = _
  have l0 : ("" : Str).length = 0 := by decide
  rw [PySem.size_glued, l0]; omega
theorem fJoin_0 {zs : List Str} (h : (zs.map (·.length)).sum ≤ 16777216) : fJoin (.str "") (.lst (zs.map .str)) = some (.str (Txt.join "" zs)) := by
  have l0 : ("" : Str).length = 0 := by decide
  unfold fJoin
  simp only [strs_map, Option.bind_some]
  rw [if_pos]
  unfold joinOk
  rw [l0]
  exact decide_eq_true (by omega)
theorem sum_ones {zs : List Str} (n2 : ∀ z ∈ zs, z.length = 1) : (zs.map (·.length)).sum = zs.length := by
  induction zs with
  | nil => rfl
  | cons z zs ih => rw [List.map_cons, List.sum_cons, ih fun z m => n2 z (List.mem_cons_of_mem _ m), n2 z List.mem_cons_self, List.length_cons]; omega
end Eng
end
section
set_option Elab.async false
set_option linter.all false
set_option maxRecDepth 100000
set_option maxHeartbeats 4000000
namespace Eng
open PySem PySem.Spec L2
@[simp] theorem frL_nil : frL [] = [] := by rfl
@[simp] theorem frL_n {L : Sl} : frL (none :: L) = none :: frL L := by rfl
@[simp] theorem frL_s {L : Sl} {o : O} : frL (some o :: L) = some (.v o.fr) :: frL L := by rfl
@[simp] theorem frL_m {L : Sl} {d : Option D} : frL (d.map O.v :: L) = d.map O.v :: frL L := by cases d <;> rfl
@[simp] theorem fr_mk {os : List (Key × O)} : (O.mk os).fr = .dk (O.frK os) := by rfl
@[simp] theorem fr_mq {os : List (List Key × O)} : (O.mq os).fr = .dt (O.frT os) := by rfl
@[simp] theorem fr_mt {os : List O} : (O.mt os).fr = .tup (O.frA os) := by rfl
@[simp] theorem fr_mi {p : Bool} {c : Str} {os : List (Str × O)} : (O.mi p c os).fr = .ins c (O.frF os) := by rfl
@[simp] theorem frF_nil : O.frF [] = [] := by rfl
@[simp] theorem frF_cons {x : Str} {o : O} {os : List (Str × O)} : O.frF ((x, o) :: os) = (x, o.fr) :: O.frF os := by rfl
@[simp] theorem vOk_int {L : Sl} {i : Int} : vOk L (D.int i).pl = true := by rfl
@[simp] theorem vOk_bl {L : Sl} {i : Bool} : vOk L (D.bl i).pl = true := by rfl
@[simp] theorem vOk_str {L : Sl} {i : Str} : vOk L (D.str i).pl = true := by rfl
@[simp] theorem vOk_non {L : Sl} : vOk L D.non.pl = true := by rfl
@[simp] theorem vOkO_v {L : Sl} {d : D} : vOk L (O.v d).pl = vOk L d.pl := by rfl
theorem forGo_step {tg : D → Sl → Option Sl} {body : Sl → RS} {L L1 L2 : Sl} {x : D} {xs : List D} (e1 : tg x L = some L1) (e2 : body L1 = .next L2) : forGo tg body L (x :: xs) = forGo tg body L2 xs := by
  rw [forGo, e1]; dsimp only; rw [e2]
@[simp] theorem forGo_nil {tg : D → Sl → Option Sl} {body : Sl → RS} {L : Sl} : forGo tg body L [] = .next L := by rfl
@[simp] theorem ap_sApp {i : Nat} {m : Sl → R O} {L : Sl} : sApp i m L = (match L[i]? with
  | some (some (.ml _)) => bindS (m L) (fun o L => match L[i]? with | some (some (.ml os)) => if os.length < 16777216 then .next (L.set i (some (.ml (os ++ [o])))) else .stuck | _ => .stuck) L
  | _ => .stuck) := by rfl
@[simp] theorem ap_sPut {i : Nat} {mk mv : Sl → R D} {L : Sl} : sPut i mk mv L = bindS (mv L) (fun v L => match L[i]? with
  | some (some o) => bindS (mk L) (fun k L => match dput o k v with | some o' => .next (L.set i (some o')) | none => .stuck) L
  | _ => .stuck) L := by rfl
@[simp] theorem ap_iNil {L : Sl} : iNil L = .ok [] := by rfl
@[simp] theorem ap_iMv {i : Nat} {r : Sl → R (List (Nat ⊕ D))} {L : Sl} : iMv i r L = (match L[i]? with | some (some _) => (r L).bind fun xs => .ok (.inl i :: xs) | _ => .stuck) := by rfl
@[simp] theorem ap_iEx {m : Sl → R D} {r : Sl → R (List (Nat ⊕ D))} {L : Sl} : iEx m r L = (m L).bind fun d => (r L).bind fun xs => .ok (.inr d :: xs) := by rfl
@[simp] theorem ap_mvNil {L : Sl} : moves [] L = some ([], L) := by rfl
@[simp] theorem ap_mvMv {i : Nat} {xs : List (Nat ⊕ D)} {L : Sl} : moves (.inl i :: xs) L = (match L[i]? with | some (some o) => if okSet L i = true then (moves xs (L.set i none)).map fun p => (o :: p.1, p.2) else none | _ => none) := by rfl
@[simp] theorem ap_mvEx {d : D} {xs : List (Nat ⊕ D)} {L : Sl} : moves (.inr d :: xs) L = (moves xs L).map fun p => (.v d :: p.1, p.2) := by rfl
@[simp] theorem ap_sRetT {m : Sl → R (List (Nat ⊕ D))} {L : Sl} : sRetT m L = bindS (m L) (fun xs L => if xs.length ≤ 16777216 then (match moves xs L with | some (os, L') => .ret (.mt os) L' | none => .stuck) else .stuck) L := by rfl
@[simp] theorem ap_sAppIx {i c : Nat} {m : Sl → R O} {L : Sl} : sAppIx i c m L = (match L[i]? with
  | some (some (.mt os)) => (match os[c]? with
    | some (.ml _) => bindS (m L) (fun o L => match L[i]? with
      | some (some (.mt os)) => (match os[c]? with | some (.ml ps) => if ps.length < 16777216 then .next (L.set i (some (.mt (os.set c (.ml (ps ++ [o])))))) else .stuck | _ => .stuck)
      | _ => .stuck) L
    | _ => .stuck)
  | _ => .stuck) := by rfl
@[simp] theorem ok_0mt {L : Sl} {d : List O} : okSet (some (.mt d) :: L) 0 = true := by rfl
@[simp] theorem ap_mRepL {m : Sl → R (List D)} {mb : Sl → R D} {L : Sl} : mRepL m mb L = (m L).bind fun ds => if ds.length ≤ 1000 then (mb L).bind fun y => (match y with
  | .int k => if 0 ≤ k ∧ k ≤ 1000 then .ok (.ml ((List.replicate k.toNat ds).flatten.map .v)) else .stuck
  | _ => .stuck) else .stuck := by rfl
@[simp] theorem ap_sExt {i : Nat} {m : Sl → R O} {L : Sl} : sExt i m L = (match L[i]? with
  | some (some (.ml _)) => bindS (m L) (fun o L => match L[i]?, o with | some (some (.ml os)), .ml ps => if os.length + ps.length ≤ 16777216 then .next (L.set i (some (.ml (os ++ ps)))) else .stuck | _, _ => .stuck) L
  | _ => .stuck) := by rfl
@[simp] theorem ap_oNil {L : Sl} : oNil L = .ok [] := by rfl
@[simp] theorem ap_oCons {m : Sl → R O} {r : Sl → R (List O)} {L : Sl} : oCons m r L = (m L).bind fun o => (r L).bind fun os => .ok (o :: os) := by rfl
@[simp] theorem ap_mLstO {m : Sl → R (List O)} {L : Sl} : mLstO m L = (m L).bind fun os => if os.length ≤ 16777216 then .ok (.ml os) else .stuck := by rfl
@[simp] theorem ap_mvNil2 {j : Nat} {body : Sl → RS} {L : Sl} : mvGo j body L [] = .next L := by rfl
@[simp] theorem ap_sForMv {i j : Nat} {body : Sl → RS} {L : Sl} : sForMv i j body L = (match L[i]? with
  | some (some (.ml os)) => if okSet L i = true then mvGo j body (L.set i none) os else .stuck
  | _ => .stuck) := by rfl
@[simp] theorem ap_sM0 {i : Nat} {f : List O → List O} {L : Sl} : sM0 i f L = (match L[i]? with
  | some (some (.ml os)) => .next (L.set i (some (.ml (f os))))
  | _ => .stuck) := by rfl
@[simp] theorem ap_sSub {i : Nat} {mk mv : Sl → R D} {L : Sl} : sSub i mk mv L = bindS (mv L) (fun d L => match L[i]? with
  | some (some (.ml os)) => bindS (mk L) (fun k L => match k with
    | .int n => (match ixN os.length n with | some j => .next (L.set i (some (.ml (os.set j (.v d))))) | none => .stuck)
    | _ => .stuck) L
  | _ => .stuck) L := by rfl
@[simp] theorem ap_sRetX {i : Nat} {L : Sl} : sRetX i L = (match L[i]? with | some (some o) => if okSet L i = true then .ret o (L.set i none) else .stuck | _ => .stuck) := by rfl
@[simp] theorem ap_sFrz {i : Nat} {k : Sl → RS} {L : Sl} : sFrz i k L = (match L[i]? with | some (some o) => if okSet L i = true then k (L.set i (some (.v o.fr))) else .stuck | _ => .stuck) := by rfl
@[simp] theorem ap_sFSet {i : Nat} {cs : List Str} {f : Str} {m : Sl → R O} {L : Sl} : sFSet i cs f m L = bindS (m L) (fun o L => match L[i]? with
  | some (some (.mi p c fs)) => if c ∈ cs ∧ fs.length < 1000 then .next (L.set i (some (.mi p c (putFO f o fs)))) else .stuck
  | _ => .stuck) L := by rfl
@[simp] theorem ap_sAug {i : Nat} {f : D → D → Option D} {m : Sl → R D} {L : Sl} : sAug i f m L = (match L[i]? with
  | some (some (.v x)) => bindS (m L) (fun y L => match f x y with | some z => if okSet L i = true then .next (L.set i (some (.v z))) else .stuck | none => .stuck) L
  | _ => .stuck) := by rfl
@[simp] theorem ap_sPar {i j : Nat} {a b : Sl → R D} {L : Sl} : sPar i j a b L = bindS (a L) (fun x L => bindS (b L) (fun y L => if okSet L i = true ∧ okSet L j = true then .next ((L.set i (some (.v x))).set j (some (.v y))) else .stuck) L) L := by rfl
@[simp] theorem ap_get1 {a k : Sl → R D} {L : Sl} : mGet1 a k L = (a L).bind fun d => if isDct d = true then (k L).bind fun y => lift ((getD? d y).map fun o => o.getD .non) else .stuck := by rfl
@[simp] theorem ap_get2 {a k x : Sl → R D} {L : Sl} : mGet2 a k x L = (a L).bind fun d => if isDct d = true then (k L).bind fun y => (x L).bind fun z => lift ((getD? d y).map fun o => o.getD z) else .stuck := by rfl
@[simp] theorem ap_putTup {n : Nat} {r : List D → Sl → Option Sl} {ds : List D} {L : Sl} : putTup n r (.tup ds) L = if ds.length = n then r ds L else none := by rfl
@[simp] theorem ap_putTupL {n : Nat} {r : List D → Sl → Option Sl} {ds : List D} {L : Sl} : putTup n r (.lst ds) L = if ds.length = n then r ds L else none := by rfl
@[simp] theorem fPow_8 : fPow (.int 10) (.int 8) = some (.int 100000000) := by rfl
@[simp] theorem fPow_6 : fPow (.int 10) (.int 6) = some (.int 1000000) := by rfl
@[simp] theorem fPow_9 : fPow (.int 10) (.int 9) = some (.int 1000000000) := by rfl
@[simp] theorem fPow_10 : fPow (.int 10) (.int 10) = some (.int 10000000000) := by rfl
@[simp] theorem fPow_11 : fPow (.int 10) (.int 11) = some (.int 100000000000) := by rfl
@[simp] theorem fPow_12 : fPow (.int 10) (.int 12) = some (.int 1000000000000) := by rfl
@[simp] theorem fTuple_l {ds : List D} : fTuple [.lst ds] = some (.tup ds) := by rfl
@[simp] theorem fTuple_t {ds : List D} : fTuple [.tup ds] = some (.tup ds) := by rfl
@[simp] theorem fList_l {ds : List D} : fList [.lst ds] = some (.ml (ds.map .v)) := by rfl
@[simp] theorem fList_t {ds : List D} : fList [.tup ds] = some (.ml (ds.map .v)) := by rfl
@[simp] theorem fInt_i {i : Int} : fInt [.int i] = some (.int i) := by rfl
@[simp] theorem fInt_b {b : Bool} : fInt [.bl b] = some (.int (if b then 1 else 0)) := by rfl
@[simp] theorem fMax_2 {i j : Int} : fMax [.int i, .int j] = some (.int (max i j)) := by rfl
@[simp] theorem fMin_2 {i j : Int} : fMin [.int i, .int j] = some (.int (min i j)) := by rfl
@[simp] theorem fIs_nn : fIs .non .non = some (.bl true) := by rfl
@[simp] theorem fIs_in {i : Int} : fIs (.int i) .non = some (.bl false) := by rfl
@[simp] theorem fIs_sn {i : Str} : fIs (.str i) .non = some (.bl false) := by rfl
@[simp] theorem fIs_tn {i : List D} : fIs (.tup i) .non = some (.bl false) := by rfl
@[simp] theorem fIsN_nn : fIsN .non .non = some (.bl false) := by rfl
@[simp] theorem fIsN_in {i : Int} : fIsN (.int i) .non = some (.bl true) := by rfl
@[simp] theorem isD_dk {ds : List (Key × D)} : isDct (.dk ds) = true := by rfl
@[simp] theorem isD_dt {ds : List (List Key × D)} : isDct (.dt ds) = true := by rfl
@[simp] theorem get_ks {ds : List (Key × D)} {z : Str} : getD? (.dk ds) (.str z) = some (valD ds (.inr z)) := by rfl
@[simp] theorem get_ki {ds : List (Key × D)} {z : Int} : getD? (.dk ds) (.int z) = some (valD ds (.inl z)) := by rfl
theorem at_lit {α : Type} {xs : List α} {n : Nat} {x : α} (h : xs[n]? = some x) : atI xs (n : Int) = some x := by
  have : n < xs.length := (List.getElem?_eq_some_iff.mp h).1
  rw [atI_nn (by omega) (by omega)]; simpa using h
@[simp] theorem at_0 {α : Type} {x : α} {xs : List α} : atI (x :: xs) 0 = some x := at_lit (n := 0) rfl
@[simp] theorem at_1 {α : Type} {x y : α} {xs : List α} : atI (y :: x :: xs) 1 = some x := at_lit (n := 1) rfl
@[simp] theorem at_2 {α : Type} {x y z : α} {xs : List α} : atI (y :: z :: x :: xs) 2 = some x := at_lit (n := 2) rfl
@[simp] theorem at_3 {α : Type} {x y z w : α} {xs : List α} : atI (y :: z :: w :: x :: xs) 3 = some x := at_lit (n := 3) rfl
@[simp] theorem at_4 {α : Type} {x y z w u : α} {xs : List α} : atI (y :: z :: w :: u :: x :: xs) 4 = some x := at_lit (n := 4) rfl
theorem pickI {ns : List Int} {ds : List D} {i : Int} {P : Int → Prop} (e : intsD ds = some ns) (h : 0 ≤ i) (h2 : i < ns.length) (hp : ∀ n ∈ ns, P n) : ∃ v, atI ds i = some (.int v) ∧ P v := by
  refine ⟨_, fIx_ints e h h2, ?_⟩
  unfold nth
  rw [List.getD, List.getElem?_eq_getElem (by omega)]
  exact hp _ (List.getElem_mem _)
def cnt (i r : Nat) : List D := (List.range' i r).map fun (k : Nat) => D.int (k : Int)
@[simp] theorem cnt_0 {i : Nat} : cnt i 0 = [] := by rfl
theorem cnt_S {i r : Nat} : cnt i (r + 1) = .int (i : Int) :: cnt (i + 1) r := by unfold cnt; rw [List.range'_succ]; rfl
theorem rng_cnt {n : Nat} : rng 0 n = cnt 0 n := by
  unfold rng cnt
  rw [List.range_eq_range']
  simp
theorem rng1_cnt {n : Nat} (h : n < 1000000000) : rng1 (.int (n : Int)) = some (cnt 0 n) := by
  rw [rng1_ok ⟨by omega, by omega⟩, ← rng_cnt]; rfl
@[simp] theorem cnt_len {i n : Nat} : (cnt i n).length = n := by unfold cnt; simp
def nums (i : Nat) (ds : List D) : List D := (ds.zipIdx i).map fun p => .tup [.int (p.2 : Int), p.1]
theorem enum_nums {ds : List D} : enumD ds = nums 0 ds := rfl
@[simp] theorem nums_0 {i : Nat} : nums i [] = [] := by rfl
end Eng
end
section
set_option Elab.async false
set_option linter.all false
set_option maxRecDepth 100000
set_option maxHeartbeats 4000000
namespace Eng
open PySem PySem.Spec L2
inductive Pn : Nat → D → Prop
  | non {n : Nat} : Pn n .non
  | int {n : Nat} {i : Int} : Pn n (.int i)
  | str {n : Nat} {z : Str} : Pn n (.str z)
  | tup {n : Nat} {xs : List D} : (∀ x ∈ xs, Pn n x) → Pn (n + 1) (.tup xs)
  | lst {n : Nat} {xs : List D} : (∀ x ∈ xs, Pn n x) → Pn (n + 1) (.lst xs)
theorem pyA_of {n : Nat} : ∀ {xs : List D}, (∀ x ∈ xs, ∃ p, x.py = some p ∧ p.depth ≤ n) → ∃ ps, D.pyA xs = some ps ∧ PyData.depthAll ps ≤ n
  | [], _ => ⟨[], rfl, Nat.zero_le _⟩
  | x :: xs, h => by
    obtain ⟨p, e1, d1⟩ := h x List.mem_cons_self
    obtain ⟨ps, e2, d2⟩ := pyA_of (xs := xs) fun y m => h y (List.mem_cons_of_mem _ m)
    refine ⟨p :: ps, ?_, ?_⟩
    · unfold D.pyA; rw [e1, e2]; rfl
    · simp only [PyData.depthAll]; omega
theorem Pn.py {n : Nat} {d : D} (h : Pn n d) : ∃ p, d.py = some p ∧ p.depth ≤ n + 1 := by
  induction h with
  | non => exact ⟨_, rfl, by simp [PyData.depth]⟩
  | int => exact ⟨_, rfl, by simp [PyData.depth]⟩
  | str => exact ⟨_, rfl, by simp [PyData.depth]⟩
  | tup _ ih =>
    obtain ⟨ps, e, h⟩ := pyA_of ih
    exact ⟨_, by unfold D.py; rw [e]; rfl, by simp only [PyData.depth]; omega⟩
  | lst _ ih =>
    obtain ⟨ps, e, h⟩ := pyA_of ih
    exact ⟨_, by unfold D.py; rw [e]; rfl, by simp only [PyData.depth]; omega⟩
theorem Pn.eqv {n m : Nat} {x y : D} (h : Pn n x) (g : Pn m y) : ∀ {p q : PyData}, x.py = some p → y.py = some q → (PyData.eqv p q = true ↔ x = y) := by
  have all : ∀ {n m : Nat} {xs ys : List D}, (∀ x ∈ xs, ∀ {m : Nat} {y : D}, Pn m y → ∀ {p q : PyData}, x.py = some p → y.py = some q → (PyData.eqv p q = true ↔ x = y)) → (∀ y ∈ ys, Pn m y) →
      ∀ {ps qs : List PyData}, D.pyA xs = some ps → D.pyA ys = some qs → (PyData.eqvAll ps qs = true ↔ xs = ys) := by
    intro n m xs
    induction xs with
    | nil =>
      intro ys _ _ ps qs e1 e2
      cases e1
      cases ys with
      | nil => cases e2; simp [PyData.eqvAll]
      | cons y ys =>
        unfold D.pyA at e2
        obtain ⟨q, _, e4⟩ := bind_some e2
        obtain ⟨qs', _, rfl⟩ := map_some e4
        simp [PyData.eqvAll]
    | cons x xs ih =>
      intro ys hx hy ps qs e1 e2
      unfold D.pyA at e1
      obtain ⟨p, e3, e4⟩ := bind_some e1
      obtain ⟨ps', e5, rfl⟩ := map_some e4
      cases ys with
      | nil => cases e2; simp [PyData.eqvAll]
      | cons y ys =>
        unfold D.pyA at e2
        obtain ⟨q, e6, e7⟩ := bind_some e2
        obtain ⟨qs', e8, rfl⟩ := map_some e7
        have i1 := hx x List.mem_cons_self (hy y List.mem_cons_self) e3 e6
        have i2 := ih (fun z m => hx z (List.mem_cons_of_mem _ m)) (fun z m => hy z (List.mem_cons_of_mem _ m)) e5 e8
        simp only [PyData.eqvAll, Bool.and_eq_true, i1, i2, List.cons.injEq]
  induction h generalizing m y with
  | non => intro p q e1 e2; cases e1; cases g <;> (first | (cases e2; simp [PyData.eqv]) | (unfold D.py at e2; obtain ⟨qs, _, rfl⟩ := map_some e2; simp [PyData.eqv]))
  | int => intro p q e1 e2; cases e1; cases g <;> (first | (cases e2; simp [PyData.eqv]) | (unfold D.py at e2; obtain ⟨qs, _, rfl⟩ := map_some e2; simp [PyData.eqv]))
  | str => intro p q e1 e2; cases e1; cases g <;> (first | (cases e2; simp [PyData.eqv]) | (unfold D.py at e2; obtain ⟨qs, _, rfl⟩ := map_some e2; simp [PyData.eqv]))
  | @tup k xs hx ih =>
    intro p q e1 e2
    unfold D.py at e1
    obtain ⟨ps, e3, rfl⟩ := map_some e1
    cases g with
    | non => cases e2; simp [PyData.eqv]
    | int => cases e2; simp [PyData.eqv]
    | str => cases e2; simp [PyData.eqv]
    | tup hy =>
      unfold D.py at e2
      obtain ⟨qs, e4, rfl⟩ := map_some e2
      have := all (n := k) (fun x mx => ih x mx) hy e3 e4
      simp only [PyData.eqv, this, D.tup.injEq]
    | lst hy =>
      unfold D.py at e2
      obtain ⟨qs, e4, rfl⟩ := map_some e2
      simp [PyData.eqv]
  | @lst k xs hx ih =>
    intro p q e1 e2
    unfold D.py at e1
    obtain ⟨ps, e3, rfl⟩ := map_some e1
    cases g with
    | non => cases e2; simp [PyData.eqv]
    | int => cases e2; simp [PyData.eqv]
    | str => cases e2; simp [PyData.eqv]
    | lst hy =>
      unfold D.py at e2
      obtain ⟨qs, e4, rfl⟩ := map_some e2
      have := all (n := k) (fun x mx => ih x mx) hy e3 e4
      simp only [PyData.eqv, this, D.lst.injEq]
    | tup hy =>
      unfold D.py at e2
      obtain ⟨qs, e4, rfl⟩ := map_some e2
      simp [PyData.eqv]
open Classical in
theorem Pn.eqD {n m : Nat} {x y : D} (h : Pn n x) (g : Pn m y) (hn : n ≤ 50) : eqD x y = some (decide (x = y)) := by
  obtain ⟨p, e1, d1⟩ := h.py
  obtain ⟨q, e2, d2⟩ := g.py
  have k := h.eqv g e1 e2
  have k2 : PyData.eqv p q = decide (x = y) := by
    by_cases c : x = y
    · rw [decide_eq_true c]; exact k.mpr c
    · rw [decide_eq_false c]
      cases e : PyData.eqv p q with
      | false => rfl
      | true => exact absurd (k.mp e) c
  unfold Eng.eqD
  split
  · cases e1; cases e2; simp
  · cases e1; cases e2; simp
  · cases h
  · rw [e1, e2]
    dsimp only
    rw [if_pos (by omega), k2]
theorem Pn.ne_self {n : Nat} {x : D} (h : Pn n x) (hn : n ≤ 50) : fNe x x = some (.bl false) := by unfold fNe; rw [h.eqD h hn]; simp
open Classical in
theorem Pn.eq {n m : Nat} {x y : D} (h : Pn n x) (g : Pn m y) (hn : n ≤ 50) : fEq x y = some (.bl (decide (x = y))) := by unfold fEq; rw [h.eqD g hn]; rfl
open Classical in
theorem Pn.ne {n m : Nat} {x y : D} (h : Pn n x) (g : Pn m y) (hn : n ≤ 50) : fNe x y = some (.bl (!decide (x = y))) := by unfold fNe; rw [h.eqD g hn]; rfl
theorem Pn.up {n : Nat} {x : D} (h : Pn n x) : Pn (n + 1) x := by
  induction h with
  | non => exact .non
  | int => exact .int
  | str => exact .str
  | tup _ ih => exact .tup ih
  | lst _ ih => exact .lst ih
end Eng
end
section
set_option Elab.async false
set_option linter.all false
namespace Eng
open PySem PySem.Spec PyProof.Rows L2
def tryR (M : List (Str × Str × Bool)) (hs : List Hd) : RS → RS
  | .exc c L' => hGo M hs c L'
  | r => r
@[simp] theorem ap_sTry {M : List (Str × Str × Bool)} {b : Sl → RS} {hs : List Hd} {L : Sl} : sTry M b hs L = tryR M hs (b L) := by rfl
@[simp] theorem try_next {M : List (Str × Str × Bool)} {hs : List Hd} {L : Sl} : tryR M hs (.next L) = .next L := by rfl
@[simp] theorem try_ret {M : List (Str × Str × Bool)} {hs : List Hd} {o : O} {L : Sl} : tryR M hs (.ret o L) = .ret o L := by rfl
@[simp] theorem try_exc {M : List (Str × Str × Bool)} {hs : List Hd} {c : Str} {L : Sl} : tryR M hs (.exc c L) = hGo M hs c L := by rfl
theorem hGo_as {M : List (Str × Str × Bool)} {h c : Str} {i : Nat} {su : Sl → RS} {r : List Hd} {L : Sl} (e : lookM M c h = some true) : hGo M (⟨h, some i, su⟩ :: r) c L = if okSet L i = true then offS i (su (L.set i (some (.v (.exn c []))))) else .stuck := by
  unfold hGo; rw [e]
@[simp] theorem off_next {i : Nat} {L : Sl} : offS i (.next L) = if isPin L i = true then .stuck else .next (L.set i none) := by rfl
@[simp] theorem off_ret {i : Nat} {o : O} {L : Sl} : offS i (.ret o L) = .ret o L := by rfl
@[simp] theorem noE_next {L : Sl} : noExc (.next L) = .next L := by rfl
@[simp] theorem noE_ret {o : O} {L : Sl} : noExc (.ret o L) = .ret o L := by rfl
@[simp] theorem ap_sDrop {m : Sl → R D} {L : Sl} : sDrop m L = bindS (m L) (fun _ L => .next L) L := by rfl
theorem isE_of {M : List (Str × Str × Bool)} {hs : List Str} {c : Str} {b : Bool} (e : anyIs M c hs = some b) : fIsE M hs (.exn c []) = some (.bl b) := by
  show Option.map D.bl (anyIs M c hs) = _; rw [e]; rfl
def thF (i : Nat) : RS → RS
  | .next L' => sFrz i .next L'
  | r => r
@[simp] theorem ap_sThF {i : Nat} {k : Sl → RS} {L : Sl} : sThF i k L = thF i (k L) := by rfl
@[simp] theorem thF_next {i : Nat} {L : Sl} : thF i (.next L) = sFrz i .next L := by rfl
@[simp] theorem pl_exn {i : Bool} {c : Str} {fs : List (Str × D)} : D.pl i (.exn c fs) = false := by rfl
end Eng
end
section
set_option Elab.async false
set_option linter.all false
namespace Eng
open PySem PySem.Spec PyProof.Rows L2
@[simp] theorem ap_mVarP {i : Nat} {L : Sl} : mVarP i L = (match L[i]? with
  | some (some (.pin o)) => .ok ⟨i, [.un], o⟩
  | some (some o) => .ok ⟨i, [], o⟩
  | _ => .stuck) := by rfl
@[simp] theorem ap_mFldP {cs : List Str} {f : Str} {m : Sl → R Pq} {L : Sl} : mFldP cs f m L = (m L).bind fun q => match q.o.sub (.fld cs f) with | some o => .ok ⟨q.i, q.p ++ [.fld cs f], o⟩ | none => .stuck := by rfl
@[simp] theorem ap_mIxP {m : Sl → R Pq} {k : Sl → R D} {L : Sl} : mIxP m k L = (m L).bind fun q => (k L).bind fun d => match q.o.sub (.at d) with | some o => .ok ⟨q.i, q.p ++ [.at d], o⟩ | none => .stuck := by rfl
@[simp] theorem ap_mPl {m : Sl → R Pq} {L : Sl} : mPl m L = (m L).bind fun q => match q.o with | .v d => .ok d | _ => .stuck := by rfl
@[simp] theorem ap_sAppP {mp : Sl → R Pq} {m : Sl → R O} {L : Sl} : sAppP mp m L = bindS (mp L) (fun q => match q.o with
  | .ml os => fun L => bindS (m L) (fun o L => if os.length < 16777216 then .next (stPut L q.i q.p (.ml (os ++ [o]))) else .stuck) L
  | _ => fun _ => .stuck) L := by rfl
@[simp] theorem ap_sClrP {mp : Sl → R Pq} {L : Sl} : sClrP mp L = bindS (mp L) (fun q L => match q.o with
  | .ml _ => .next (stPut L q.i q.p (.ml []))
  | _ => .stuck) L := by rfl
@[simp] theorem ap_stPut {L : Sl} {i : Nat} {p : List Stp} {q : O} : stPut L i p q = (match L[i]? with | some (some o0) => L.set i (some (putP o0 p q)) | _ => L) := by rfl
@[simp] theorem put_nil {o q : O} : putP o [] q = q := by rfl
@[simp] theorem put_cons {o q : O} {s : Stp} {p : List Stp} : putP o (s :: p) q = (match o.sub s with | some o1 => o.sput s (putP o1 p q) | none => o) := by rfl
@[simp] theorem sub_ml {os : List O} {i : Int} : (O.ml os).sub (.at (.int i)) = atI os i := by rfl
@[simp] theorem sub_mt {os : List O} {i : Int} : (O.mt os).sub (.at (.int i)) = atI os i := by rfl
@[simp] theorem sub_mi {p : Bool} {c f : Str} {cs : List Str} {os : List (Str × O)} : (O.mi p c os).sub (.fld cs f) = if c ∈ cs then lookA os f else none := by rfl
@[simp] theorem sub_pin {o : O} : (O.pin o).sub .un = some o := by rfl
@[simp] theorem put_ml {os : List O} {i : Int} {q : O} : (O.ml os).sput (.at (.int i)) q = (match ixN os.length i with | some j => .ml (os.set j q) | none => .ml os) := by rfl
@[simp] theorem put_mt {os : List O} {i : Int} {q : O} : (O.mt os).sput (.at (.int i)) q = (match ixN os.length i with | some j => .mt (os.set j q) | none => .mt os) := by rfl
@[simp] theorem put_mi {p : Bool} {c f : Str} {cs : List Str} {os : List (Str × O)} {q : O} : (O.mi p c os).sput (.fld cs f) q = .mi p c (setA os f q) := by rfl
@[simp] theorem put_pin {o q : O} : (O.pin o).sput .un q = .pin q := by rfl
@[simp] theorem ap_sFrE {i : Nat} {k : Sl → RS} {L : Sl} : sFrE i k L = (match L[i]? with | some (some (.ml os)) => k (L.set i (some (.ml ((O.frA os).map .v)))) | _ => .stuck) := by rfl
@[simp] theorem isT_tup {ds : List D} : fIsT "tuple" (.tup ds) = some (.bl true) := by rfl
end Eng
end
section
set_option Elab.async false
set_option linter.all false
namespace Eng
open PySem L2
theorem distR_nd : ∀ {zs : List Str}, zs.Nodup → distR zs = zs.length
  | [], _ => rfl
  | z :: zs, h => by
    obtain ⟨h1, h2⟩ := List.nodup_cons.mp h
    have ih := distR_nd h2
    unfold distR
    rw [if_neg h1, ih, List.length_cons]
theorem distR_dup : ∀ {zs : List Str}, ¬ zs.Nodup → distR zs < zs.length
  | [], h => absurd List.nodup_nil h
  | z :: zs, h => by
    have le := distR_le zs
    unfold distR
    rw [List.length_cons]
    by_cases c : z ∈ zs
    · rw [if_pos c]; omega
    · rw [if_neg c]
      have := distR_dup (zs := zs) fun n => h (List.nodup_cons.mpr ⟨c, n⟩)
      omega
theorem lenSet_of {zs : List Str} (h : zs.length ≤ 1000) : fLenSet (.tup (zs.map .str)) = some (.int (dist zs)) := by
  unfold fLenSet
  dsimp only
  rw [strs_map, Option.bind_some, if_pos h]
theorem lenSet_nd {zs : List Str} (n : zs.Nodup) (h : zs.length ≤ 1000) : fLenSet (.tup (zs.map .str)) = some (.int zs.length) := by
  rw [lenSet_of h]
  unfold dist
  rw [distR_nd (List.pairwise_reverse.mpr (n.imp fun h => h.symm)), List.length_reverse]
theorem lenSet_dup {zs : List Str} (n : ¬ zs.Nodup) (h : zs.length ≤ 1000) : ∃ k : Nat, k < zs.length ∧ fLenSet (.tup (zs.map .str)) = some (.int k) := by
  refine ⟨dist zs, ?_, lenSet_of h⟩
  have := distR_dup (zs := zs.reverse) fun z => n (by have := List.pairwise_reverse.mp z; exact this.imp fun h => h.symm)
  rw [List.length_reverse] at this
  exact this
end Eng
end
section
set_option Elab.async false
set_option linter.all false
set_option maxRecDepth 100000
set_option maxHeartbeats 4000000
namespace Eng
open PySem PySem.Spec PyProof.Rows L2
section
variable {G : Gd} {Γ : Gm}
def RpP (K : PySem.W.Frag) (mg : Str → Option Value) (F : Hp) : List (V × V) → List (Str × D) → Prop
  | [], [] => True
  | (k, v) :: ps, (z, d) :: ds => k = V.str z ∧ Rp K mg F v d ∧ RpP K mg F ps ds
  | _, _ => False
theorem RpP.mono {K : PySem.W.Frag} {mg : Str → Option Value} {F F' : Hp} (s : Same F F') : ∀ {ps : List (V × V)} {ds : List (Str × D)}, RpP K mg F ps ds → RpP K mg F' ps ds
  | [], [], _ => True.intro
  | (_, _) :: _, (_, _) :: _, ⟨a, b, c⟩ => ⟨a, b.mono s, RpP.mono s c⟩
  | [], _ :: _, h => h.elim
  | _ :: _, [], h => h.elim
def mPNil : Sl → R (List (Str × D)) := fun _ => .ok []
def mPCons (z : Str) (m : Sl → R D) (r : Sl → R (List (Str × D))) : Sl → R (List (Str × D)) := fun L => (m L).bind fun d => (r L).bind fun ds => .ok ((z, d) :: ds)
def mDisp (m : Sl → R (List (Str × D))) : Sl → R O := fun L => (m L).bind fun ds => if (ds.map (·.1)).Nodup ∧ ds.length ≤ 15 then .ok (.mk (ds.map fun p => (.inr p.1, .v p.2))) else .stuck
end
end Eng
namespace Eng
open PySem PySem.Spec PyProof.Rows L2
end Eng
namespace Eng
open PySem PySem.Spec PyProof.Rows L2
def fMulR : D → D → Option D
  | .tup ds, y => fRep (.tup ds) y
  | x, y => fMul x y
end Eng
end
section
set_option Elab.async false
set_option linter.all false
namespace Eng
open PySem L2
@[simp] theorem ap_mDisp {m : Sl → R (List (Str × D))} {L : Sl} : mDisp m L = (m L).bind fun ds => if (ds.map (·.1)).Nodup ∧ ds.length ≤ 15 then .ok (.mk (ds.map fun p => (.inr p.1, .v p.2))) else .stuck := by rfl
@[simp] theorem fMulR_t {ds : List D} {y : D} : fMulR (.tup ds) y = fRep (.tup ds) y := by rfl
@[simp] theorem ap_mPNil {L : Sl} : mPNil L = .ok [] := by rfl
@[simp] theorem ap_mPCons {z : Str} {m : Sl → R D} {r : Sl → R (List (Str × D))} {L : Sl} : mPCons z m r L = (m L).bind fun d => (r L).bind fun ds => .ok ((z, d) :: ds) := by rfl
end Eng
end
section
set_option Elab.async false
set_option linter.all false
set_option maxRecDepth 100000
set_option maxHeartbeats 4000000
namespace Eng
open PySem PySem.Spec PyProof.Rows L2
section
variable {G : Gd} {Γ : Gm}
def rngC (lo c : Int) (n : Nat) : List D := (List.range n).map fun (i : Nat) => .int (lo + (i : Int) * c)
theorem itD_rngC {F : Hp} {lo c : Int} {n : Nat} : ItD G (Itc lo c n) (rngC lo c n) F where
  go := fun i F' H' s s' hi => by show i < n; simpa [rngC] using hi
  st := fun i F' H' s s' hi => by show n ≤ i; simpa [rngC] using hi
  yl := fun i F' H' x H'' s s' hi y => by
    obtain ⟨rfl, rfl⟩ := y
    refine ⟨.int (lo + (i : Nat) * c), F', ?_, .refl s', .int _⟩
    have hi' : i < n := by simpa [rngC] using hi
    unfold rngC
    rw [List.getElem?_map, List.getElem?_range hi']; rfl
def stepN (i j c : Int) : Nat := if c = -1 then (i - j).toNat else if i < j then ((j - i - 1) / c + 1).toNat else 0
def rng3 : D → D → D → Option (List D)
  | .int i, .int j, .int c => if (-1000000000000 ≤ i ∧ i ≤ 1000000000000) ∧ (-1000000000000 ≤ j ∧ j ≤ 1000000000000) ∧ (c = -1 ∨ (1 ≤ c ∧ c ≤ 1000)) then some (rngC i c (stepN i j c)) else none
  | _, _, _ => none
theorem rgc_of {i j c : Int} (hi : -1000000000000 ≤ i ∧ i ≤ 1000000000000) (hj : -1000000000000 ≤ j ∧ j ≤ 1000000000000) (hc : c = -1 ∨ (1 ≤ c ∧ c ≤ 1000)) : RgC i j c (stepN i j c) := by
  rcases hc with rfl | ⟨h1, h2⟩
  · exact RgC.neg (by omega) (by omega) (by omega) (by omega)
  · have nc : ¬ c = -1 := by omega
    have rs : Builtin.Range.rangeSize i j c = (stepN i j c : Int) := by
      unfold Builtin.Range.rangeSize stepN
      rw [if_pos (by omega), if_neg nc]
      by_cases l : i < j
      · rw [if_pos l, if_pos l]
        have := Int.ediv_nonneg (a := j - i - 1) (b := c) (by omega) (by omega)
        omega
      · rw [if_neg l, if_neg l]; rfl
    refine ⟨by omega, by omega, ?_, rs⟩
    have b : Builtin.Range.rangeSize i j c ≤ 2000000000001 := by
      unfold Builtin.Range.rangeSize
      rw [if_pos (by omega)]
      by_cases l : i < j
      · rw [if_pos l]
        have := Int.ediv_le_self (a := j - i - 1) c (by omega)
        omega
      · rw [if_neg l]; omega
    unfold Builtin.Range.small
    generalize Builtin.Range.rangeSize i j c = r at b rs
    have r0 : 0 ≤ r := by omega
    simp only [Builtin.Range.rangeFitsLong, Bool.and_eq_true, Bool.or_eq_true, decide_eq_true_eq, beq_iff_eq, show c > 0 by omega, if_true]
    refine ⟨⟨⟨⟨?_, ?_⟩, ?_⟩, ?_⟩, .inr ?_⟩ <;> omega
def mRg3 (a b c : Sl → R D) : Sl → R (List D) := fun L => (a L).bind fun x => (b L).bind fun y => (c L).bind fun z => lift (rng3 x y z)
theorem ci_r3 (gr : Γ.Gr G) {tg a b c : Expr} {ma mb mc : Sl → R D} {p pos : Pos} (h : rngB Γ "range" [a, b, c] = true) (ha : CE G Γ a ma) (hb : CE G Γ b mb) (hc : CE G Γ c mc) : CI G Γ tg (.Call (.Name "range" p) [a, b, c] [] pos) (mRg3 ma mb mc) := by
  unfold rngB at h
  obtain ⟨h, h3⟩ := and2 h
  obtain ⟨h1, h2⟩ := and2 h
  simp at h3
  obtain ⟨n1, n2, n3⟩ := h3
  have hx := of_decide_eq_true h1
  refine fun X ok W tk => piImp (pi_range3 (gl_of ok.sc h2) (by rw [ok.mg]; exact gr.bl _ hx) (pa_cons (ha X ok W tk) (pa_cons (hb X ok W tk) (pa_cons (hc X ok W tk) pa_nil (star_cons n3)) (star_cons n2)) (star_cons n1)) (star_cons n1) (star_any (by simp [n2, n3]))) fun σ H Q h => ?_
  obtain ⟨B, F0, L, F, A, R, h⟩ := h
  refine ⟨B, F0, L, F, A, R, (pG.bind h).imp R fun d F1 H1 s1 R1 g1 h1 v rv => ?_⟩
  refine ⟨B, F0, L, F1, A, R1, (pG.bind h1).imp R1 fun d2 F2 H2 s2 R2 g2 h2 v2 rv2 => ?_⟩
  refine ⟨B, F0, L, F2, A, R2, (pG.bind h2).imp R2 fun d3 F3 H3 s3 R3 g3 h3 v3 rv3 => ?_⟩
  cases ed : rng3 d d2 d3 with
  | none => rw [ed] at h3; exact h3.elim
  | some es =>
    rw [ed] at h3
    unfold rng3 at ed
    split at ed
    · split at ed
      · rename_i hj
        cases ed; cases rv; cases rv2; cases rv3
        exact ⟨_, _, _, _, rfl, rgc_of hj.1 hj.2.1 hj.2.2, h3 F3 H3 (Grow.refl R3.sf) _ itD_rngC⟩
      · cases ed
    · cases ed
end
end Eng
end
section
set_option Elab.async false
set_option linter.all false
namespace Eng
open PySem L2
@[simp] theorem ap_mRg3 {a b c : Sl → R D} {L : Sl} : mRg3 a b c L = (a L).bind fun x => (b L).bind fun y => (c L).bind fun z => lift (rng3 x y z) := by rfl
theorem rng3_ok {i j c : Int} (h : (-1000000000000 ≤ i ∧ i ≤ 1000000000000) ∧ (-1000000000000 ≤ j ∧ j ≤ 1000000000000) ∧ (c = -1 ∨ (1 ≤ c ∧ c ≤ 1000))) : rng3 (.int i) (.int j) (.int c) = some (rngC i c (stepN i j c)) := if_pos h
end Eng
end
section
set_option Elab.async false
set_option linter.all false
set_option maxRecDepth 100000
set_option maxHeartbeats 4000000
namespace Eng
open PySem PySem.Spec PyProof.Rows L2
section
variable {G : Gd} {Γ : Gm}
def fStrX : List D → Option D
  | [.str z] => some (.str z)
  | ds => fStr ds
theorem b_strX : Blt G fStrX (.type "str") := by
  intro X Γ ok cl pins s σ H xs us Q I r h
  obtain ⟨F, ds, d, sf, hr, e, h⟩ := h
  unfold fStrX at e
  split at e
  · cases e
    cases hr with
    | cons r1 r2 => cases r2; cases r1; exact SkE.call_str_str pins s σ H _ us Q I r ⟨_, rfl, h _ F H (.refl sf) (.str _)⟩
  · exact b_str X Γ ok cl pins s σ H xs us Q I r ⟨F, _, d, sf, hr, e, h⟩
theorem op_mulS {X : Cx} : OpR X (binaryOp .Mult) (fun x y H Q => ∃ i j, x = .str i ∧ y = .int j ∧ i.length ≤ 100 ∧ (-1000 ≤ j ∧ j ≤ 1000) ∧ Q (.str (Txt.mul i j)) H) := by
  intro pins s σ H x y v u Q I rx ry h
  obtain ⟨i, j, rfl, rfl, h1, h2, q⟩ := h
  obtain ⟨t, rfl⟩ := rx
  obtain ⟨t', rfl⟩ := ry
  have ok : MulOk i j := by
    refine ⟨?_, fun a b => ?_, fun a b => ?_⟩
    · simp only [Bool.or_eq_false_iff, decide_eq_false_iff_not]
      omega
    · have : (2 ^ 63 - 1) / j ≥ (2 ^ 63 - 1) / 1000 := by
        refine Int.le_ediv_of_mul_le (by omega) ?_
        have : (2 ^ 63 - 1 : Int) / 1000 = 9223372036854775 := by decide
        rw [this]
        have : (9223372036854775 : Int) * j ≤ 9223372036854775 * 1000 := Int.mul_le_mul_of_nonneg_left (by omega) (by omega)
        omega
      have e : (2 ^ 63 - 1 : Int) / 1000 = 9223372036854775 := by decide
      omega
    · have : i.length * j.toNat ≤ 100 * 1000 := Nat.mul_le_mul h1 (by omega)
      show decide (i.length * j.toNat > sizeLine) = false
      rw [sizeLine_eq]
      exact decide_eq_false (by omega)
  refine SB.mul ok fun t2 k => ⟨.str (Txt.mul i j), H, ?_, ⟨t2, rfl⟩, q⟩
  exact I.tok _
def fMulS : D → D → Option D
  | .str i, .int j => if i.length ≤ 100 ∧ -1000 ≤ j ∧ j ≤ 1000 then some (.str (Txt.mul i j)) else none
  | _, _ => none
theorem o_mulS : Op2 G fMulS (binaryOp .Mult) := by
  intro X Γ ok pins s σ H x y v u Q I rx ry h
  obtain ⟨F, dx, dy, d, sf, hx, hy, e, h⟩ := h
  unfold fMulS at e
  split at e
  · split at e
    · rename_i hm
      cases e; cases hx; cases hy
      exact op_mulS pins s σ H _ _ v u Q I rx ry ⟨_, _, rfl, rfl, hm.1, hm.2, h _ F H (.refl sf) (.str _)⟩
    · cases e
  · cases e
end
end Eng
end
section
set_option Elab.async false
set_option linter.all false
namespace Eng
open PySem L2
@[simp] theorem fStrX_s {z : Str} : fStrX [.str z] = some (.str z) := by rfl
@[simp] theorem fStrX_i {i : Int} : fStrX [.int i] = fStr [.int i] := by rfl
@[simp] theorem fMulS_si {z : Str} {i : Int} : fMulS (.str z) (.int i) = if z.length ≤ 100 ∧ -1000 ≤ i ∧ i ≤ 1000 then some (.str (Txt.mul z i)) else none := by rfl
@[simp] theorem ap_mS1O {f : D → D → Option O} {a b : Sl → R D} {L : Sl} : mS1O f a b L = (a L).bind fun x => (lift (asS x)).bind fun _ => (b L).bind fun y => lift (f x y) := by rfl
theorem nat_log {n : Nat} (h : n < 1000000000000000) : n.log2 < 1920 := by
  by_cases c : n = 0
  · subst c; decide
  · have := (Nat.log2_lt (n := n) (k := 60) c).mpr (by omega)
    omega
theorem fStr_n {n : Nat} (h : n < 1000000000000000) : fStr [.int (n : Int)] = some (.str (toString (n : Int))) := if_pos (by simpa using nat_log h)
end Eng
end
section
set_option Elab.async false
set_option linter.all false
set_option maxRecDepth 100000
set_option maxHeartbeats 4000000
namespace Eng
open PySem PySem.Spec PyProof.Rows L2
section
variable {G : Gd} {Γ : Gm} {W : WX} {B : Bd} {F0 F H : Hp} {L : Sl} {A : List Addr} {σ : L2.St}
def sSubP (mp : Sl → R Pq) (mk mv : Sl → R D) : Sl → RS := sBind mv fun d => sBind mp fun q => match q.o with
  | .ml os => sBind mk fun k L => match k with
    | .int n => (match ixN os.length n with | some j => .next (stPut L q.i q.p (.ml (os.set j (.v d)))) | none => .stuck)
    | _ => .stuck
  | _ => fun _ => .stuck
def isObj : O → Bool | .ml _ => true | .mk _ => true | .mq _ => true | .mi _ _ _ => true | _ => false
theorem Ow.objRef {tg : Tg} {K : PySem.W.Frag} {mg : Str → Option Value} {v : V} {o : O} (r : Ow tg K mg F H v o A) (h : isObj o = true) : ∃ a, v = .ref a := by
  cases r <;> first | exact ⟨_, rfl⟩ | cases h
def epGo (i kk j : Nat) (body : Sl → RS) : Nat → Nat → List O → Sl → RS
  | 0, _, os, L => .next (L.set i (some (.ml os)))
  | n + 1, c, os, L => match os[c]? with
    | some o => if isObj o = true ∧ okSet L kk = true ∧ okSet (L.set kk (some (.v (.int (c : Int))))) j = true then
        (match body ((L.set kk (some (.v (.int (c : Int))))).set j (some (.pin o))) with
        | .next L2 => (match L2[j]? with | some (some (.pin o')) => epGo i kk j body n (c + 1) (os.set c o') (L2.set j none) | _ => .stuck)
        | .cont L2 => (match L2[j]? with | some (some (.pin o')) => epGo i kk j body n (c + 1) (os.set c o') (L2.set j none) | _ => .stuck)
        | _ => .stuck) else .stuck
    | none => .stuck
def sForEP (i kk j : Nat) (body : Sl → RS) : Sl → RS := fun L => match L[i]? with
  | some (some (.ml os)) => if okSet L i = true then epGo i kk j body os.length 0 os (L.set i (some (.pin (.v .opq)))) else .stuck
  | _ => .stuck
theorem Rl.pins (R : Rl G B F0 L F A σ H) {P : List (Nat × Addr)} (h : ∀ q ∈ P, σ[q.1]? = some (some (.ref q.2)) ∧ isPin L q.1 = true) : Rl G ⟨B.h, P⟩ F0 L F A σ H := ⟨R.os, R.nd, R.sf, R.f0, R.sb, R.fb, R.fa, h⟩
end
end Eng
end
section
set_option Elab.async false
set_option linter.all false
set_option maxRecDepth 100000
set_option maxHeartbeats 4000000
namespace Eng
open PySem PySem.Spec PyProof.Rows L2
section
variable {G : Gd} {Γ : Gm} {W : WX} {B : Bd} {F0 F H : Hp} {L : Sl} {A : List Addr} {σ : L2.St}
def lcGoO (tg : D → Sl → Option Sl) (tst : Sl → R Bool) (el : Sl → R O) (L : Sl) : List D → R (List O)
  | [] => .ok []
  | x :: xs => (lift (tg x L)).bind fun L' => (tst L').bind fun b => if b = true then (el L').bind fun d => (lcGoO tg tst el L xs).bind fun ds => .ok (d :: ds) else lcGoO tg tst el L xs
def mLcO (it : Sl → R (List D)) (vs : List Nat) (tg : D → Sl → Option Sl) (tst : Sl → R Bool) (el : Sl → R O) : Sl → R O := fun L => (it L).bind fun ds =>
  if ds.length ≤ sizeLine ∧ okW L vs = true then (match lcGoO tg tst el (wipeL L vs) ds with | .ok es => .ok (.ml es) | _ => .stuck) else .stuck
end
end Eng
end
section
set_option Elab.async false
set_option linter.all false
namespace Eng
open PySem L2
@[simp] theorem ap_sSubP {mp : Sl → R Pq} {mk mv : Sl → R D} {L : Sl} : sSubP mp mk mv L = bindS (mv L) (fun d L => bindS (mp L) (fun q => match q.o with
  | .ml os => fun L => bindS (mk L) (fun k L => match k with
    | .int n => (match ixN os.length n with | some j => .next (stPut L q.i q.p (.ml (os.set j (.v d)))) | none => .stuck)
    | _ => .stuck) L
  | _ => fun _ => .stuck) L) L := by rfl
@[simp] theorem ap_sForEP {i kk j : Nat} {body : Sl → RS} {L : Sl} : sForEP i kk j body L = (match L[i]? with
  | some (some (.ml os)) => if okSet L i = true then epGo i kk j body os.length 0 os (L.set i (some (.pin (.v .opq)))) else .stuck
  | _ => .stuck) := by rfl
@[simp] theorem ap_mLcO {it : Sl → R (List D)} {vs : List Nat} {tg : D → Sl → Option Sl} {tst : Sl → R Bool} {el : Sl → R O} {L : Sl} : mLcO it vs tg tst el L = (it L).bind fun ds =>
  if ds.length ≤ 16777216 ∧ okW L vs = true then (match lcGoO tg tst el (wipeL L vs) ds with | .ok es => .ok (.ml es) | _ => .stuck) else .stuck := by rfl
end Eng
end
section
set_option Elab.async false
set_option linter.all false
set_option maxRecDepth 100000
set_option maxHeartbeats 4000000
namespace Eng
open PySem PySem.Spec PyProof.Rows L2
open Sem (wp)
section
variable {prog : Program} {w : World} {A : Around} {E : Value → Shared → Prop} {s : Shared}
end
section
variable {G : Gd} {Γ : Gm}
def seqD : D → Option (List D) | .lst ds => some ds | .tup ds => some ds | _ => none
def mEnX (m : Sl → R D) : Sl → R (List D) := fun L => (m L).bind fun d => lift ((seqD d).map enumD)
end
end Eng
end
section
set_option Elab.async false
set_option linter.all false
namespace Eng
open PySem L2
@[simp] theorem ap_mEnX {m : Sl → R D} {L : Sl} : mEnX m L = (m L).bind fun d => lift ((seqD d).map enumD) := by rfl
@[simp] theorem seqD_l {ds : List D} : seqD (.lst ds) = some ds := by rfl
@[simp] theorem seqD_t {ds : List D} : seqD (.tup ds) = some ds := by rfl
end Eng
end
section
set_option Elab.async false
set_option linter.all false
set_option maxRecDepth 100000
set_option maxHeartbeats 4000000
namespace Eng
open PySem PySem.Spec PyProof.Rows L2
def takeL : Nat → List Bool → Sl → Option (List O)
  | _, [], _ => some []
  | i, true :: fl, L => match L[i]? with | some (some (.pin o)) => (takeL (i + 1) fl (L.set i none)).map (o :: ·) | _ => none
  | i, false :: fl, L => takeL (i + 1) fl L
def pinV (σ : L2.St) : Nat → List Bool → List V → Prop
  | _, [], us => us = []
  | i, true :: fl, us => ∃ u r, us = u :: r ∧ σ[i]? = some (some u) ∧ pinV σ (i + 1) fl r
  | i, false :: fl, us => pinV σ (i + 1) fl us
def slL (n : Nat) (xs : List (Bool × O)) : Sl := xs.map (fun x => some (if x.1 = true then O.pin x.2 else x.2)) ++ List.replicate (n - xs.length) none
def pinP : Nat → List V → List (Bool × O) → List (Nat × Addr)
  | i, .ref a :: vs, (true, _) :: xs => (i, a) :: pinP (i + 1) vs xs
  | i, _ :: vs, _ :: xs => pinP (i + 1) vs xs
  | _, _, _ => []
def lentObj (xs : List (Bool × O)) : Bool := xs.all fun x => !x.1 || isObj x.2
def outL (fl : List Bool) : RS → RL
  | .next L => match takeL 0 fl L with | some ls => .ok (.v .non) ls | none => .stuck
  | .ret o L => match takeL 0 fl L with | some ls => .ok o ls | none => .stuck
  | .exc c L => match takeL 0 fl L with | some ls => .exc c ls | none => .stuck
  | _ => .stuck
def runL (n : Nat) (m : Sl → RS) (fl : List Bool) (xs : List (Bool × O)) : RL := if xs.map (·.1) = fl ∧ lentObj xs = true then outL fl (m (slL n xs)) else .stuck
section
variable {tg : Tg} {K : PySem.W.Frag} {mg : Str → Option Value} {F H : Hp}
theorem takeL_ow {σ : L2.St} : ∀ {fl : List Bool} {i : Nat} {L : Sl} {A : List Addr} {ls : List O} {us : List V}, OwS tg K mg F H σ L A → A.Nodup → takeL i fl L = some ls → pinV σ i fl us → ∃ A1, OwA tg K mg F H us ls A1 ∧ A1.Nodup ∧ ∀ a ∈ A1, a ∈ A
  | [], i, L, A, ls, us, os, nd, e, p => by
    unfold takeL at e; cases e
    unfold pinV at p; subst p
    exact ⟨[], .nil, List.nodup_nil, fun _ m => nomatch m⟩
  | true :: fl, i, L, A, ls, us, os, nd, e, p => by
    unfold takeL at e
    unfold pinV at p
    obtain ⟨u, r, rfl, p1, p2⟩ := p
    split at e
    · rename_i o eo
      obtain ⟨ls1, e1, e2⟩ := map_some e
      subst e2
      obtain ⟨v, B1, Bi, B2, h1, h2, h3, q0⟩ := os.take eo
      rw [p1] at h1; cases h1
      rw [h3] at nd
      have n1 := List.nodup_append.mp nd
      have n2 := List.nodup_append.mp n1.1
      have nd' : (B1 ++ B2).Nodup := List.nodup_append.mpr ⟨n2.1, n1.2.1, fun a ha b hb => n1.2.2 a (List.mem_append_left _ ha) b hb⟩
      obtain ⟨A1, t1, t2, t3⟩ := takeL_ow q0 nd' e1 p2
      cases h2 with
      | pin r0 =>
        refine ⟨Bi ++ A1, .cons r0 t1, List.nodup_append.mpr ⟨n2.2.1, t2, fun a ha b hb z => ?_⟩, fun a m => ?_⟩
        · subst z
          rcases List.mem_append.mp (t3 a hb) with m | m
          · exact n2.2.2 a m a ha rfl
          · exact n1.2.2 a (List.mem_append_right _ ha) a m rfl
        · rw [h3]
          rcases List.mem_append.mp m with m | m
          · simp [m]
          · rcases List.mem_append.mp (t3 a m) with m | m <;> simp [m]
    · cases e
  | false :: fl, i, L, A, ls, us, os, nd, e, p => by
    unfold takeL at e
    unfold pinV at p
    exact takeL_ow os nd e p
theorem owL0 : ∀ {vs : List V} {xs : List (Bool × O)} {A : List Addr} {m : Nat}, OwA tg K mg F H vs (xs.map (·.2)) A →
    OwS tg K mg F H (vs.map some ++ List.replicate m none) (xs.map (fun x => some (if x.1 = true then O.pin x.2 else x.2)) ++ List.replicate m none) A
  | [], [], A, m, h => by
    cases h
    exact ow0 (vs := []) (ds := []) .nil
  | v :: vs, (b, o) :: xs, A, m, h => by
    cases h with
    | cons r t =>
      cases b with
      | true => exact .some (.pin r) (owL0 t)
      | false => exact .some r (owL0 t)
  | [], _ :: _, A, m, h => by cases h
  | _ :: _, [], A, m, h => by cases h
theorem pinP_mem : ∀ {vs : List V} {xs : List (Bool × O)} {i : Nat} {q : Nat × Addr}, q ∈ pinP i vs xs → i ≤ q.1 ∧ vs[q.1 - i]? = some (.ref q.2) ∧ ∃ o, xs[q.1 - i]? = some (true, o)
  | [], _, i, q, m => by unfold pinP at m; cases m
  | v :: vs, [], i, q, m => by cases v <;> (unfold pinP at m; cases m)
  | v :: vs, (b, o) :: xs, i, q, m => by
    have up : q ∈ pinP (i + 1) vs xs → i ≤ q.1 ∧ (v :: vs)[q.1 - i]? = some (.ref q.2) ∧ ∃ o', ((b, o) :: xs)[q.1 - i]? = some (true, o') := fun m => by
      obtain ⟨h1, h2, o', h3⟩ := pinP_mem m
      have e : q.1 - i = (q.1 - (i + 1)) + 1 := by omega
      exact ⟨by omega, by rw [e, List.getElem?_cons_succ]; exact h2, o', by rw [e, List.getElem?_cons_succ]; exact h3⟩
    cases v <;> cases b <;> (unfold pinP at m) <;> first | exact up m | skip
    rcases List.mem_cons.mp m with rfl | m
    · exact ⟨Nat.le_refl _, by simp, o, by simp⟩
    · exact up m
theorem pinV_of {σ : L2.St} : ∀ {vs : List V} {xs : List (Bool × O)} {i : Nat} {A : List Addr}, OwA tg K mg F H vs (xs.map (·.2)) A → lentObj xs = true → (∀ q ∈ pinP i vs xs, σ[q.1]? = some (some (.ref q.2))) → pinV σ i (xs.map (·.1)) (lentV vs xs)
  | [], [], i, A, h, lo, p => by unfold lentV pinV; rfl
  | v :: vs, (b, o) :: xs, i, A, h, lo, p => by
    unfold lentObj at lo
    rw [List.all_cons, Bool.and_eq_true] at lo
    cases h with
    | cons r t =>
      cases b with
      | true =>
        obtain ⟨a, rfl⟩ := r.objRef (by simpa using lo.1)
        unfold lentV pinV
        refine ⟨_, _, rfl, p (i, a) (by unfold pinP; exact List.mem_cons_self), pinV_of t lo.2 fun q m => p q (by unfold pinP; exact List.mem_cons_of_mem _ m)⟩
      | false =>
        unfold lentV pinV
        exact pinV_of t lo.2 fun q m => p q (by cases v <;> (unfold pinP; exact m))
  | [], _ :: _, i, A, h, lo, p => by cases h
  | _ :: _, [], i, A, h, lo, p => by cases h
end
theorem less_at {F : Hp} {A : List Addr} {a : Addr} {u : HO} (h : less F A a = some u) : a ∉ A ∧ F a = some u := by
  unfold less at h
  split at h
  · cases h
  · exact ⟨by assumption, h⟩
theorem less_kb {G : Gd} {H F0 : Hp} {A : List Addr} (tb : Tb0 G H F0) (h : ∀ a ∈ A, ∃ u, H a = some u ∧ MutO u) : Kb G (less H A) F0 H :=
  ⟨⟨fun a u e _ => (less_at e).2, fun a ps e => ⟨ps, (less_at e).2⟩, fun _ => tb.t⟩, tabs_less tb.t fun a u e nm => by
    unfold less
    rw [if_neg fun m => by
      obtain ⟨u', e', m'⟩ := h a m
      rw [e] at e'; cases e'; exact nm m']
    exact e, tb.f⟩
theorem fnokL_of {G : Gd} {Γ : Gm} {name qual : Str} {st : Stmt} {f : Addr} {fd : FuncData} {ps : List Str} {m : Sl → RS} {k : Nat} {fl : List Bool} (F : Fun G.K name qual st f fd) (S : FnScope Γ.N ps (defScope st)) (hsc : Γ.sc = defScope st)
    (hk : Γ.k = k) (hfl : fl.length = ps.length) (c : CSs G Γ (defBody st) m) (hlq : Γ.lq = none := by rfl) : FnOk G.P G.w G.K G.mg G.base (L2.CX G.P G.w) (k + 1) f fd ps (spL G (runL Γ.N.length m fl)) := by
  subst hk
  have sure : ∀ {xs : List (Bool × O)} {P : RL → Prop}, (P .stuck → False) → P (runL Γ.N.length m fl xs) → xs.map (·.1) = fl ∧ lentObj xs = true := fun {xs P} hP h => by
    by_cases e : xs.map (·.1) = fl ∧ lentObj xs = true
    · exact e
    · have z : runL Γ.N.length m fl xs = .stuck := if_neg e
      rw [z] at h; exact (hP h).elim
  refine F.okX S (fun vs H Q E h => ?_) (fun cdv A outer s H vs Q E hr h => ?_)
  · obtain ⟨F0, xs, A, s0, tb, r, nd, fA, h⟩ := h
    obtain ⟨e1, e2⟩ := sure (P := fun z => match z with | .ok o ls => ∀ v H', RetL G (less H A) F0 (o :: ls) (v :: lentV vs xs) H' → Q v H' | .exc c ls => ∃ C, G.mg c = some (.ref C) ∧ ∀ H', RetL G (less H A) F0 ls (lentV vs xs) H' → E (.ref C) none H' | .stuck => False) id h
    rw [r.length, List.length_map, ← hfl, ← e1, List.length_map]
  · obtain ⟨F0, xs, A, s0, tb, r, nd, fA, h⟩ := h
    obtain ⟨e1, e2⟩ := sure (P := fun z => match z with | .ok o ls => ∀ v H', RetL G (less H A) F0 (o :: ls) (v :: lentV vs xs) H' → Q v H' | .exc c ls => ∃ C, G.mg c = some (.ref C) ∧ ∀ H', RetL G (less H A) F0 ls (lentV vs xs) H' → E (.ref C) none H' | .stuck => False) id h
    have hrun : runL Γ.N.length m fl xs = outL fl (m (slL Γ.N.length xs)) := if_pos ⟨e1, e2⟩
    rw [hrun] at h
    have hlen : vs.length = xs.length := by rw [r.length, List.length_map]
    refine ⟨tS G (fun cls d _ H' => E cls d H') m, c _ ⟨rfl, rfl, rfl, rfl, rfl, rfl, S.nd, hsc.symm, S.kind, fun _ => rfl, fun _ => hr, un_of hr, passes_of rfl, fun _ _ => .inl rfl, fun _ => ⟨rfl, rfl⟩, fun q e => by rw [hlq] at e; cases e⟩ _ (takes_of rfl rfl rfl rfl), ?_⟩
    refine ⟨⟨less H A, pinP 0 vs xs⟩, F0, slL Γ.N.length xs, F0, A, ⟨?_, nd, s0, .refl _, less_kb tb fun a m => OwA.mut r a m, fun _ e _ => e, fun a m => ⟨fA a m, by unfold less; exact if_pos m⟩, fun q mq => ?_⟩, ?_⟩
    · unfold L2.start slL
      rw [hlen]
      exact owL0 r
    · obtain ⟨h1, h2, o, h3⟩ := pinP_mem mq
      rw [Nat.sub_zero] at h2 h3
      have l1 : q.1 < vs.length := get_none h2
      have l2 : q.1 < xs.length := get_none h3
      refine ⟨?_, ?_⟩
      · unfold L2.start
        rw [List.getElem?_append_left (by simpa using l1), List.getElem?_map, h2]; rfl
      · unfold isPin slL
        rw [List.getElem?_append_left (by simpa using l2), List.getElem?_map, h3]; rfl
    · have pv : ∀ {σ' : L2.St} {L' : Sl} {F' H' : Hp} {A' : List Addr}, Rl G ⟨less H A, pinP 0 vs xs⟩ F0 L' F' A' σ' H' → pinV σ' 0 fl (lentV vs xs) := fun R' => by
        rw [← e1]
        exact pinV_of r e2 fun q mq => (R'.pn q mq).1
      unfold outL at h
      cases e : m (slL Γ.N.length xs) with
      | next L =>
        rw [e] at h
        dsimp only at h
        cases et : takeL 0 fl L with
        | none => rw [et] at h; exact h.elim
        | some ls =>
          rw [et] at h
          rintro σ' H' ⟨F', A', s', R'⟩
          obtain ⟨A1, t1, t2, t3⟩ := takeL_ow R'.os R'.nd et (pv R')
          exact h .non H' ⟨F', A1, R'.f0, R'.sf, R'.sb.kp, R'.fb, OwA.cons (A := []) (.v .non) t1, t2, fun a m => R'.fa a (t3 a m)⟩
      | ret o L =>
        rw [e] at h
        dsimp only at h
        cases et : takeL 0 fl L with
        | none => rw [et] at h; exact h.elim
        | some ls =>
          rw [et] at h
          rintro v H' ⟨F', A', C, σ', s', R', ow, nC, fC⟩
          obtain ⟨A1, t1, t2, t3⟩ := takeL_ow R'.os R'.nd et (pv R')
          exact h v H' ⟨F', C ++ A1, R'.f0, R'.sf, R'.sb.kp, R'.fb, .cons ow t1, List.nodup_append.mpr ⟨nC, t2, fun a ha b hb z => (fC a ha).2.2 (z ▸ t3 b hb)⟩, fun a m => (List.mem_append.mp m).elim (fun m => ⟨(fC a m).1, (fC a m).2.1⟩) (fun m => R'.fa a (t3 a m))⟩
      | exc c L =>
        rw [e] at h
        dsimp only at h
        cases et : takeL 0 fl L with
        | none => rw [et] at h; exact h.elim
        | some ls =>
          rw [et] at h
          obtain ⟨C, eC, h⟩ := h
          refine ⟨C, eC, fun σ' H' ⟨F', A', s', R'⟩ => ?_⟩
          obtain ⟨A1, t1, t2, t3⟩ := takeL_ow R'.os R'.nd et (pv R')
          exact h H' ⟨F', A1, R'.f0, R'.sf, R'.sb.kp, R'.fb, t1, t2, fun a m => R'.fa a (t3 a m)⟩
      | brk L => rw [e] at h; exact h.elim
      | cont L => rw [e] at h; exact h.elim
      | stuck => rw [e] at h; exact h.elim
end Eng
end
section
set_option Elab.async false
set_option linter.all false
set_option maxRecDepth 100000
set_option maxHeartbeats 4000000
namespace Eng
open PySem PySem.Spec PyProof.Rows L2
inductive RX where
  | ok (o : O) (L : Sl) | exc (c : Str) (L : Sl) | stuck
inductive Ax where
  | d (x : D) | o (x : O) | mv (i : Nat) | pl (q : Pq)
section
variable {G : Gd} {Γ : Gm} {W : WX} {B : Bd} {F0 F H : Hp} {L : Sl} {A : List Addr} {σ : L2.St}
structure Pl1 (G : Gd) (L : Sl) (A : List Addr) (σ : L2.St) (F H : Hp) (q : Pq) (v : V) (Ac : List Addr) : Prop where
  ow : Ow G.tg G.K G.mg F H v q.o Ac
  up : ∃ S1 S2, A = S1 ++ Ac ++ S2 ∧ ∀ (F' H' : Hp) (o' : O) (Ac' : List Addr), Same F F' → (∀ a, a ∈ S1 ∨ a ∈ S2 → H' a = H a) → Ow G.tg G.K G.mg F' H' v o' Ac' → OwS G.tg G.K G.mg F' H' σ (stPut L q.i q.p o') (S1 ++ Ac' ++ S2)
  pin : ∀ (o' : O) (P : List (Nat × Addr)), pinO o' = pinO q.o → (∀ z ∈ P, σ[z.1]? = some (some (.ref z.2)) ∧ isPin L z.1 = true) → ∀ z ∈ P, σ[z.1]? = some (some (.ref z.2)) ∧ isPin (stPut L q.i q.p o') z.1 = true
inductive AxR (G : Gd) (L : Sl) (A : List Addr) (σ : L2.St) (F H : Hp) : List V → List Ax → List Addr → Option (Pq × V × List Addr) → Prop
  | nil : AxR G L A σ F H [] [] [] none
  | d {v : V} {x : D} {vs : List V} {xs : List Ax} {C : List Addr} {P : Option (Pq × V × List Addr)} : Rp G.K G.mg F v x → AxR G L A σ F H vs xs C P → AxR G L A σ F H (v :: vs) (.d x :: xs) C P
  | o {v : V} {x : O} {vs : List V} {xs : List Ax} {C1 C : List Addr} {P : Option (Pq × V × List Addr)} : Ow G.tg G.K G.mg F H v x C1 → AxR G L A σ F H vs xs C P → AxR G L A σ F H (v :: vs) (.o x :: xs) (C1 ++ C) P
  | mv {v : V} {i : Nat} {vs : List V} {xs : List Ax} {C : List Addr} {P : Option (Pq × V × List Addr)} : σ[i]? = some (some v) → AxR G L A σ F H vs xs C P → AxR G L A σ F H (v :: vs) (.mv i :: xs) C P
  | pl {v : V} {q : Pq} {vs : List V} {xs : List Ax} {C Ac : List Addr} : Pl1 G L A σ F H q v Ac → AxR G L A σ F H vs xs C none → AxR G L A σ F H (v :: vs) (.pl q :: xs) C (some (q, v, Ac))
def isPl : Ax → Bool | .pl _ => true | _ => false
variable {js : List Nat}
def xNil : Sl → R (List Ax) := fun _ => .ok []
def xD (m : Sl → R D) (r : Sl → R (List Ax)) : Sl → R (List Ax) := fun L => (m L).bind fun x => (r L).bind fun xs => .ok (.d x :: xs)
def xPl (m : Sl → R Pq) (r : Sl → R (List Ax)) : Sl → R (List Ax) := fun L => (m L).bind fun x => (r L).bind fun xs => if xs.any isPl = true then .stuck else .ok (.pl x :: xs)
end
end Eng
end
section
set_option Elab.async false
set_option linter.all false
set_option maxRecDepth 100000
set_option maxHeartbeats 4000000
namespace Eng
open PySem PySem.Spec PyProof.Rows L2
inductive OwM (tg : Tg) (K : PySem.W.Frag) (mg : Str → Option Value) (F H : Hp) (σ : L2.St) : List (Nat × O) → List Addr → Prop
  | nil : OwM tg K mg F H σ [] []
  | cons {i : Nat} {o : O} {v : V} {M : List (Nat × O)} {A B : List Addr} : σ[i]? = some (some v) → Ow tg K mg F H v o A → OwM tg K mg F H σ M B → OwM tg K mg F H σ ((i, o) :: M) (A ++ B)
section
variable {tg : Tg} {K : PySem.W.Frag} {mg : Str → Option Value} {F H : Hp} {σ : L2.St}
theorem OwM.tracked {M : List (Nat × O)} {C : List Addr} (h : OwM tg K mg F H σ M C) : ∀ a ∈ C, ∃ u, H a = some u ∧ MutO u := by
  induction h with
  | nil => exact fun _ m => nomatch m
  | cons _ r _ ih => exact fun a m => (List.mem_append.mp m).elim (Ow.mut r a) (ih a)
theorem OwM.mono {F' H' : Hp} (s : Same F F') {M : List (Nat × O)} {C : List Addr} (h : OwM tg K mg F H σ M C) (k : ∀ a ∈ C, H' a = H a) : OwM tg K mg F' H' σ M C := by
  induction h with
  | nil => exact .nil
  | cons e r _ ih => exact .cons e (Ow.mono s (fun a m => k a (List.mem_append_left _ m)) r) (ih fun a m => k a (List.mem_append_right _ m))
end
section
variable {G : Gd} {Γ : Gm} {W : WX} {B : Bd} {F0 F H : Hp} {L : Sl} {A : List Addr} {σ : L2.St}
end
end Eng
end
section
set_option Elab.async false
set_option linter.all false
set_option maxRecDepth 100000
set_option maxHeartbeats 4000000
namespace Eng
open PySem PySem.Spec PyProof.Rows L2
section
variable {G : Gd} {Γ : Gm} {W : WX} {B : Bd} {F0 F H : Hp} {L : Sl} {A : List Addr} {σ : L2.St}
theorem AxR.place {vs : List V} {xs : List Ax} {C : List Addr} {P : Option (Pq × V × List Addr)} (h : AxR G L A σ F H vs xs C P) : ∀ p, P = some p → Pl1 G L A σ F H p.1 p.2.1 p.2.2 := by
  induction h with
  | nil => exact fun _ z => nomatch z
  | d _ _ ih => exact ih
  | o _ _ ih => exact ih
  | mv _ _ ih => exact ih
  | pl z _ _ => exact fun p e => by cases e; exact z
def sX (m : Sl → RX) (k : O → Sl → RS) : Sl → RS := fun L => match m L with | .ok o L' => k o L' | .exc c L' => .exc c L' | .stuck => .stuck
variable {D' : Ends}
def sXDrop (m : Sl → RX) : Sl → RS := sX m fun _ L => .next L
def sXRet (m : Sl → RX) : Sl → RS := sX m fun o L => .ret o L
def sXSetO (i : Nat) (m : Sl → RX) : Sl → RS := sX m fun o L => if okSet L i = true then .next (L.set i (some o)) else .stuck
def sXSet (i : Nat) (m : Sl → RX) : Sl → RS := sX m fun o L => if okSet L i = true then .next (L.set i (some (.v o.fr))) else .stuck
def sXTg (g : D → Sl → Option Sl) (m : Sl → RX) : Sl → RS := sX m fun o L => match g o.fr L with | some L' => .next L' | none => .stuck
end
end Eng
end
section
set_option Elab.async false
set_option linter.all false
set_option maxRecDepth 100000
set_option maxHeartbeats 4000000
namespace Eng
open PySem PySem.W PySem.Calls PyProof.Rows PyProof.V PySem.Spec
end Eng
namespace Eng
open PySem PySem.Spec PyProof.Rows L2 L2.DX
def Fewer (X Y : List Addr) : Prop := (∀ a ∈ X, a ∈ Y) ∧ (Y.Nodup → X.Nodup)
theorem Fewer.sub {X Y : List Addr} (h : X.Sublist Y) : Fewer X Y := ⟨fun _ m => h.subset m, fun n => h.nodup n⟩
theorem Fewer.perm {X Y : List Addr} (h : X.Perm Y) : Fewer X Y := ⟨fun _ m => h.subset m, fun n => h.symm.nodup n⟩
theorem Fewer.trans {X Y Z : List Addr} (h : Fewer X Y) (h' : Fewer Y Z) : Fewer X Z := ⟨fun a m => h'.1 a (h.1 a m), fun n => h.2 (h'.2 n)⟩
theorem Fewer.left {X Y : List Addr} (Z : List Addr) (h : Fewer X Y) : Fewer (Z ++ X) (Z ++ Y) := by
  refine ⟨fun a m => ?_, fun n => ?_⟩
  · rcases List.mem_append.mp m with m | m
    · exact List.mem_append_left _ m
    · exact List.mem_append_right _ (h.1 a m)
  · obtain ⟨n1, n2, n3⟩ := List.nodup_append.mp n
    exact List.nodup_append.mpr ⟨n1, h.2 n2, fun a ha b hb => n3 a ha b (h.1 b hb)⟩
theorem perm_mid {X Y Z : List Addr} : (X ++ (Y ++ Z)).Perm (Y ++ (X ++ Z)) := by
  rw [← List.append_assoc, ← List.append_assoc]
  exact List.Perm.append_right Z List.perm_append_comm
def dropA {κ : Type} [DecidableEq κ] (os : List (κ × O)) (k : κ) : List (κ × O) := os.filter fun kv => decide (kv.1 ≠ k)
section
variable {tg : Tg} {K : PySem.W.Frag} {mg : Str → Option Value} {F H : Hp}
theorem drop_pos {κ α : Type} [DecidableEq κ] {x : κ × α} {r : List (κ × α)} {k : κ} (e : x.1 = k) : (x :: r).filter (fun kv => decide (kv.1 ≠ k)) = r.filter (fun kv => decide (kv.1 ≠ k)) := List.filter_cons_of_neg (by simp [e])
theorem drop_neg {κ α : Type} [DecidableEq κ] {x : κ × α} {r : List (κ × α)} {k : κ} (e : x.1 ≠ k) : (x :: r).filter (fun kv => decide (kv.1 ≠ k)) = x :: r.filter (fun kv => decide (kv.1 ≠ k)) := List.filter_cons_of_pos (by simp [e])
theorem OwK.drop (k : Key) : ∀ {vs : List (Key × V)} {os : List (Key × O)} {A : List Addr}, OwK tg K mg F H vs os A → ∃ A', OwK tg K mg F H (dropK vs k) (dropA os k) A' ∧ A'.Sublist A
  | _, _, _, .nil => ⟨[], .nil, List.Sublist.refl _⟩
  | _, _, _, .cons (x := x) (A := A1) (B := A2) q t => by
    obtain ⟨A', h1, h2⟩ := OwK.drop k t
    by_cases e : x = k
    · exact ⟨A', by unfold dropK dropA at h1 ⊢; rw [drop_pos e, drop_pos e]; exact h1, h2.trans (List.sublist_append_right _ _)⟩
    · exact ⟨A1 ++ A', by unfold dropK dropA at h1 ⊢; rw [drop_neg e, drop_neg e]; exact .cons q h1, (List.Sublist.refl _).append h2⟩
theorem OwT.drop (k : List Key) : ∀ {vs : List (List Key × V)} {os : List (List Key × O)} {A : List Addr}, OwT tg K mg F H vs os A → ∃ A', OwT tg K mg F H (dropK vs k) (dropA os k) A' ∧ A'.Sublist A
  | _, _, _, .nil => ⟨[], .nil, List.Sublist.refl _⟩
  | _, _, _, .cons (x := x) (A := A1) (B := A2) q t => by
    obtain ⟨A', h1, h2⟩ := OwT.drop k t
    by_cases e : x = k
    · exact ⟨A', by unfold dropK dropA at h1 ⊢; rw [drop_pos e, drop_pos e]; exact h1, h2.trans (List.sublist_append_right _ _)⟩
    · exact ⟨A1 ++ A', by unfold dropK dropA at h1 ⊢; rw [drop_neg e, drop_neg e]; exact .cons q h1, (List.Sublist.refl _).append h2⟩
theorem OwK.mapO {k : Key} {v : V} {o : O} {C : List Addr} (r : Ow tg K mg F H v o C) : ∀ {vs : List (Key × V)} {os : List (Key × O)} {A : List Addr}, OwK tg K mg F H vs os A → (vs.map (·.1)).Nodup → (vs.any fun kv => decide (kv.1 = k)) = true →
    ∃ A', OwK tg K mg F H (vs.map fun kv => if kv.1 = k then (kv.1, v) else kv) (os.map fun kv => if kv.1 = k then (kv.1, o) else kv) A' ∧ Fewer A' (C ++ A)
  | _, _, _, .nil, _, e => by cases e
  | _, _, _, .cons (x := x) (o := o1) (vs := vs1) (os := os1) (A := A1) (B := A2) q t, n, e => by
    rw [List.map_cons, List.nodup_cons] at n
    by_cases c : x = k
    · have e1 : (vs1.map fun kv => if kv.1 = k then (kv.1, v) else kv) = vs1 := by
        refine (List.map_congr_left (g := id) fun kv m => ?_).trans (List.map_id _)
        have : kv.1 ≠ k := fun z => n.1 (by show x ∈ _; rw [c, ← z]; exact List.mem_map.mpr ⟨kv, m, rfl⟩)
        rw [if_neg this]; rfl
      have e2 : (os1.map fun kv => if kv.1 = k then (kv.1, o) else kv) = os1 := by
        have hk := t.keys
        refine (List.map_congr_left (g := id) fun kv m => ?_).trans (List.map_id _)
        have : kv.1 ≠ k := fun z => n.1 (by show x ∈ _; rw [c, ← z, hk]; exact List.mem_map.mpr ⟨kv, m, rfl⟩)
        rw [if_neg this]; rfl
      refine ⟨C ++ A2, ?_, Fewer.sub ((List.Sublist.refl C).append (List.sublist_append_right A1 A2))⟩
      rw [List.map_cons, List.map_cons, if_pos c, if_pos c, e1, e2]
      exact .cons r t
    · have e' : (vs1.any fun kv => decide (kv.1 = k)) = true := by simpa [c] using e
      obtain ⟨A', h1, h2⟩ := OwK.mapO r t n.2 e'
      refine ⟨A1 ++ A', ?_, (h2.left A1).trans (Fewer.perm perm_mid)⟩
      rw [List.map_cons, List.map_cons, if_neg c, if_neg c]
      exact .cons q h1
theorem OwK.snocO {k : Key} {v : V} {o : O} {C : List Addr} (r : Ow tg K mg F H v o C) : ∀ {vs : List (Key × V)} {os : List (Key × O)} {A : List Addr}, OwK tg K mg F H vs os A → ∃ A', OwK tg K mg F H (vs ++ [(k, v)]) (os ++ [(k, o)]) A' ∧ Fewer A' (C ++ A)
  | _, _, _, .nil => ⟨C ++ [], .cons r .nil, Fewer.sub (List.Sublist.refl _)⟩
  | _, _, _, .cons (A := A1) q t => by
    obtain ⟨A', h1, h2⟩ := OwK.snocO (k := k) r t
    exact ⟨A1 ++ A', .cons q h1, (h2.left A1).trans (Fewer.perm perm_mid)⟩
theorem OwK.putO {k : Key} {v : V} {o : O} {C : List Addr} (r : Ow tg K mg F H v o C) {vs : List (Key × V)} {os : List (Key × O)} {A : List Addr} (h : OwK tg K mg F H vs os A) (n : (vs.map (·.1)).Nodup) : ∃ A', OwK tg K mg F H (putK vs k v) (Eng.putO os k o) A' ∧ Fewer A' (C ++ A) := by
  unfold putK Eng.putO
  rw [← any_fst h.keys]
  split
  · rename_i e
    exact h.mapO r n e
  · exact h.snocO r
theorem OwT.mapO {k : List Key} {v : V} {o : O} {C : List Addr} (r : Ow tg K mg F H v o C) : ∀ {vs : List (List Key × V)} {os : List (List Key × O)} {A : List Addr}, OwT tg K mg F H vs os A → (vs.map (·.1)).Nodup → (vs.any fun kv => decide (kv.1 = k)) = true →
    ∃ A', OwT tg K mg F H (vs.map fun kv => if kv.1 = k then (kv.1, v) else kv) (os.map fun kv => if kv.1 = k then (kv.1, o) else kv) A' ∧ Fewer A' (C ++ A)
  | _, _, _, .nil, _, e => by cases e
  | _, _, _, .cons (x := x) (o := o1) (vs := vs1) (os := os1) (A := A1) (B := A2) q t, n, e => by
    rw [List.map_cons, List.nodup_cons] at n
    by_cases c : x = k
    · have e1 : (vs1.map fun kv => if kv.1 = k then (kv.1, v) else kv) = vs1 := by
        refine (List.map_congr_left (g := id) fun kv m => ?_).trans (List.map_id _)
        have : kv.1 ≠ k := fun z => n.1 (by show x ∈ _; rw [c, ← z]; exact List.mem_map.mpr ⟨kv, m, rfl⟩)
        rw [if_neg this]; rfl
      have e2 : (os1.map fun kv => if kv.1 = k then (kv.1, o) else kv) = os1 := by
        have hk := t.keys
        refine (List.map_congr_left (g := id) fun kv m => ?_).trans (List.map_id _)
        have : kv.1 ≠ k := fun z => n.1 (by show x ∈ _; rw [c, ← z, hk]; exact List.mem_map.mpr ⟨kv, m, rfl⟩)
        rw [if_neg this]; rfl
      refine ⟨C ++ A2, ?_, Fewer.sub ((List.Sublist.refl C).append (List.sublist_append_right A1 A2))⟩
      rw [List.map_cons, List.map_cons, if_pos c, if_pos c, e1, e2]
      exact .cons r t
    · have e' : (vs1.any fun kv => decide (kv.1 = k)) = true := by simpa [c] using e
      obtain ⟨A', h1, h2⟩ := OwT.mapO r t n.2 e'
      refine ⟨A1 ++ A', ?_, (h2.left A1).trans (Fewer.perm perm_mid)⟩
      rw [List.map_cons, List.map_cons, if_neg c, if_neg c]
      exact .cons q h1
theorem OwT.snocO {k : List Key} {v : V} {o : O} {C : List Addr} (r : Ow tg K mg F H v o C) : ∀ {vs : List (List Key × V)} {os : List (List Key × O)} {A : List Addr}, OwT tg K mg F H vs os A → ∃ A', OwT tg K mg F H (vs ++ [(k, v)]) (os ++ [(k, o)]) A' ∧ Fewer A' (C ++ A)
  | _, _, _, .nil => ⟨C ++ [], .cons r .nil, Fewer.sub (List.Sublist.refl _)⟩
  | _, _, _, .cons (A := A1) q t => by
    obtain ⟨A', h1, h2⟩ := OwT.snocO (k := k) r t
    exact ⟨A1 ++ A', .cons q h1, (h2.left A1).trans (Fewer.perm perm_mid)⟩
theorem OwT.putO {k : List Key} {v : V} {o : O} {C : List Addr} (r : Ow tg K mg F H v o C) {vs : List (List Key × V)} {os : List (List Key × O)} {A : List Addr} (h : OwT tg K mg F H vs os A) (n : (vs.map (·.1)).Nodup) : ∃ A', OwT tg K mg F H (putK vs k v) (Eng.putO os k o) A' ∧ Fewer A' (C ++ A) := by
  unfold putK Eng.putO
  rw [← any_fst h.keys]
  split
  · rename_i e
    exact h.mapO r n e
  · exact h.snocO r
end
end Eng
end
section
set_option Elab.async false
set_option linter.all false
set_option maxRecDepth 100000
set_option maxHeartbeats 4000000
namespace Eng
open PySem PySem.Spec PyProof.Rows L2
section
variable {G : Gd} {Γ : Gm} {W : WX} {B : Bd} {F0 F H : Hp} {L : Sl} {A : List Addr} {σ : L2.St}
def xE (m : Sl → R D) : Sl → RX := fun L => match m L with | .ok d => .ok (.v d) L | .exc c => .exc c L | .stuck => .stuck
def xN (m : Sl → R O) : Sl → RX := fun L => match m L with | .ok o => .ok o L | .exc c => .exc c L | .stuck => .stuck
def xM (i : Nat) : Sl → RX := fun L => match L[i]? with | some (some o) => if okSet L i = true then .ok o (L.set i none) else .stuck | _ => .stuck
theorem Pl1.mut {q : Pq} {v : V} {Ac : List Addr} (z : Pl1 G L A σ F H q v Ac) (R : Rl G B F0 L F A σ H) : (∀ a ∈ Ac, a ∈ A) ∧ Ac.Nodup ∧
    ∀ (H' : Hp) (o' : O) (Ac' : List Addr), pinO o' = pinO q.o → (∀ x, x ∉ Ac → (∃ u, H x = some u) → H' x = H x) → Ow G.tg G.K G.mg F H' v o' Ac' → Ac'.Nodup → (∀ a ∈ Ac', a ∈ Ac ∨ (F a = none ∧ B.h a = none ∧ a ∉ A)) →
      ∃ A', Rl G B F0 (stPut L q.i q.p o') F A' σ H' ∧ ∀ a ∈ A', a ∈ Ac' ∨ (a ∈ A ∧ a ∉ Ac) := by
  obtain ⟨r, ⟨S1, S2, ea, up⟩, pin⟩ := z
  have nd := R.nd
  rw [ea] at nd
  have n1 := List.nodup_append.mp nd
  have n2 := List.nodup_append.mp n1.1
  have hi : ∀ a ∈ Ac, a ∈ A := fun a m => by rw [ea]; simp [m]
  have oth : ∀ a, a ∈ S1 ∨ a ∈ S2 → a ∈ A ∧ a ∉ Ac := fun a m => by
    refine ⟨by rw [ea]; rcases m with m | m <;> simp [m], fun ha => ?_⟩
    rcases m with m | m
    · exact n2.2.2 a m a ha rfl
    · exact n1.2.2 a (List.mem_append_right _ ha) a m rfl
  refine ⟨hi, n2.2.1, fun H' o' Ac' hpo hk ow nd' hA => ?_⟩
  have keep : ∀ a, a ∈ S1 ∨ a ∈ S2 → H' a = H a := fun a m => hk a (oth a m).2 (R.os.tracked a (oth a m).1)
  have q0 := up F H' o' Ac' (.refl _) keep ow
  have notA : ∀ a, F a ≠ none → a ∉ Ac := fun a hf m => hf (R.fa a (hi a m)).1
  have notB : ∀ a, B.h a ≠ none → a ∉ Ac := fun a hf m => hf (R.fa a (hi a m)).2
  have sep : ∀ a ∈ Ac', ∀ b, b ∈ S1 ∨ b ∈ S2 → a ≠ b := fun a ha b hb z => by
    subst z
    rcases hA a ha with h | h
    · exact (oth a hb).2 h
    · exact h.2.2 (oth a hb).1
  refine ⟨_, ⟨q0, ?_, fun a u e => ?_, R.f0, R.sb.mut hk (fun a m => (R.fa a (hi a m)).2) (fun a m => R.os.mut a (hi a m)), R.fb, fun a m => ?_, pin o' B.p hpo R.pn⟩, fun a m => ?_⟩
  · refine List.nodup_append.mpr ⟨List.nodup_append.mpr ⟨n2.1, nd', fun a ha b hb z => sep b hb a (.inl ha) z.symm⟩, n1.2.1, fun a ha b hb z => ?_⟩
    rcases List.mem_append.mp ha with ha | ha
    · exact n1.2.2 a (List.mem_append_left _ ha) b hb z
    · exact sep a ha b (.inr hb) z
  · have hu := R.sf a u e
    rw [hk a (notA a (by rw [e]; intro z; cases z)) ⟨u, hu⟩]; exact hu
  · rcases List.mem_append.mp m with m | m
    · rcases List.mem_append.mp m with m | m
      · exact R.fa a (oth a (.inl m)).1
      · rcases hA a m with h | h
        · exact R.fa a (hi a h)
        · exact ⟨h.1, h.2.1⟩
    · exact R.fa a (oth a (.inr m)).1
  · rcases List.mem_append.mp m with m | m
    · rcases List.mem_append.mp m with m | m
      · exact .inr (oth a (.inl m))
      · exact .inl m
    · exact .inr (oth a (.inr m))
def dputO (o : O) (k : D) (v : O) : Option O := match o with
  | .mk os => (keyD k).bind fun j => if os.length < sizeLine then some (.mk (putO os j v)) else none
  | .mq os => match k with | .tup ks => (keysD ks).bind fun j => if os.length < sizeLine then some (.mq (putO os j v)) else none | _ => none
  | .me n os => (keyD k).bind fun j => if (os.any fun kv => decide (kv.1 = j)) = true then some (.me n (putO os j v)) else none
  | _ => none
def sPutX (m : Sl → RX) (mp : Sl → R Pq) (mk : Sl → R D) : Sl → RS := sX m fun o => sBind mp fun q => sBind mk fun k L => match dputO q.o k o with | some o' => .next (stPut L q.i q.p o') | none => .stuck
end
end Eng
end
section
set_option Elab.async false
set_option linter.all false
set_option maxRecDepth 100000
set_option maxHeartbeats 4000000
namespace Eng
open PySem PySem.Spec PyProof.Rows L2
def subV (F H : Hp) : V → O → Stp → Option V
  | .ref a, .ml _, .at (.int n) => (match H a with | some (.lst xs) => atI xs n | _ => none)
  | .ref a, .mt _, .at (.int n) => (match F a with | some (.tup xs) => atI xs n | _ => none)
  | .ref a, .mk _, .at d => (match H a with | some (.dK kvs) => (keyD d).bind fun k => valV kvs k | _ => none)
  | .ref a, .mq _, .at (.tup ks) => (match H a with | some (.dT kvs) => (keysD ks).bind fun k => valV kvs k | _ => none)
  | .ref a, .mi _ _ _, .fld _ f => (match H a with | some (.ins _ _ fs) => fs.lookup f | _ => none)
  | v, .pin _, .un => some v
  | _, _, _ => none
def isMe : O → Bool | .me _ _ => true | _ => false
def getV (F H : Hp) : V → O → List Stp → Option V
  | v, _, [] => some v
  | v, o, s :: p => match subV F H v o s, o.sub s with | some v1, some o1 => getV F H v1 o1 p | _, _ => none
def noMeP : O → List Stp → Bool
  | _, [] => true
  | o, s :: p => !isMe o && (match o.sub s with | some o1 => noMeP o1 p | none => true)
section
variable {G : Gd} {Γ : Gm} {W : WX} {B : Bd} {F0 F H : Hp} {L : Sl} {A : List Addr} {σ : L2.St}
theorem sub_zp {v0 : V} {o0 o2 : O} {A0 : List Addr} {s : Stp} (r : Ow G.tg G.K G.mg F H v0 o0 A0) (e : o0.sub s = some o2) : ∃ v2 A1 Ac A2, Ow G.tg G.K G.mg F H v2 o2 Ac ∧ (isMe o0 = false → subV F H v0 o0 s = some v2) ∧ A0 = A1 ++ Ac ++ A2 ∧
    ∀ (F' H' : Hp) (o' : O) (Ac' : List Addr), Same F F' → (∀ a, a ∈ A1 ∨ a ∈ A2 → H' a = H a) → Ow G.tg G.K G.mg F' H' v2 o' Ac' → Ow G.tg G.K G.mg F' H' v0 (o0.sput s o') (A1 ++ Ac' ++ A2) := by
  cases r with
  | v _ => exact absurd e (by unfold O.sub; intro z; cases z)
  | @ml a xs os A1 hH ra =>
    cases s with
    | «at» d =>
      cases d with
      | int n =>
        obtain ⟨j, j1, j2⟩ := atI_some (show atI os n = some o2 from e)
        obtain ⟨w, B1, Bc, B2, t1, t2, t3, t4⟩ := ra.nth j2
        refine ⟨w, a :: B1, Bc, B2, t2, fun _ => ?VV, by rw [t3]; simp, fun F' H' o' Ac' sm ag r'' => ?_⟩
        case VV => unfold subV; simp only [hH]; unfold atI; rw [ra.length, j1]; exact t1
        have := t4 F' H' o' Ac' sm (fun x m => ag x (m.imp (List.mem_cons_of_mem _) id)) r''
        show Ow G.tg G.K G.mg F' H' _ (match ixN os.length n with | some j => .ml (os.set j o') | none => .ml os) _
        rw [j1]
        simpa using Ow.ml (by rw [ag a (.inl List.mem_cons_self)]; exact hH) this
      | _ => exact absurd e (by unfold O.sub; intro z; cases z)
    | _ => exact absurd e (by unfold O.sub; intro z; cases z)
  | @mt a xs os A1 hF ra =>
    cases s with
    | «at» d =>
      cases d with
      | int n =>
        obtain ⟨j, j1, j2⟩ := atI_some (show atI os n = some o2 from e)
        obtain ⟨w, B1, Bc, B2, t1, t2, t3, t4⟩ := ra.nth j2
        refine ⟨w, B1, Bc, B2, t2, fun _ => ?VV, t3, fun F' H' o' Ac' sm ag r'' => ?_⟩
        case VV => unfold subV; simp only [hF]; unfold atI; rw [ra.length, j1]; exact t1
        show Ow G.tg G.K G.mg F' H' _ (match ixN os.length n with | some j => .mt (os.set j o') | none => .mt os) _
        rw [j1]
        exact Ow.mt (sm _ _ hF) (t4 F' H' o' Ac' sm ag r'')
      | _ => exact absurd e (by unfold O.sub; intro z; cases z)
    | _ => exact absurd e (by unfold O.sub; intro z; cases z)
  | @mk a kvs os A1 hH ra =>
    cases s with
    | «at» d =>
      obtain ⟨kk, j1, j2⟩ := bind_some (show ((keyD d).bind fun k => lookA os k) = some o2 from e)
      obtain ⟨w, B1, Bc, B2, t1, t2, t3, t4⟩ := ra.look j2
      refine ⟨w, a :: B1, Bc, B2, t2, fun _ => ?VV, by rw [t3]; simp, fun F' H' o' Ac' sm ag r'' => ?_⟩
      case VV => unfold subV; simp only [hH, j1]; exact t1
      have := t4 F' H' o' Ac' sm (fun x m => ag x (m.imp (List.mem_cons_of_mem _) id)) r''
      show Ow G.tg G.K G.mg F' H' _ (match keyD d with | some k => O.mk (setA os k o') | none => .mk os) _
      rw [j1]
      simpa using Ow.mk (by rw [ag a (.inl List.mem_cons_self)]; exact hH) this
    | _ => exact absurd e (by unfold O.sub; intro z; cases z)
  | @mq a kvs os A1 hH ra =>
    cases s with
    | «at» d =>
      cases d with
      | tup ks =>
        obtain ⟨kk, j1, j2⟩ := bind_some (show ((keysD ks).bind fun k => lookA os k) = some o2 from e)
        obtain ⟨w, B1, Bc, B2, t1, t2, t3, t4⟩ := ra.look j2
        refine ⟨w, a :: B1, Bc, B2, t2, fun _ => ?VV, by rw [t3]; simp, fun F' H' o' Ac' sm ag r'' => ?_⟩
        case VV => unfold subV; simp only [hH, j1]; exact t1
        have := t4 F' H' o' Ac' sm (fun x m => ag x (m.imp (List.mem_cons_of_mem _) id)) r''
        show Ow G.tg G.K G.mg F' H' _ (match keysD ks with | some k => O.mq (setA os k o') | none => .mq os) _
        rw [j1]
        simpa using Ow.mq (by rw [ag a (.inl List.mem_cons_self)]; exact hH) this
      | _ => exact absurd e (by unfold O.sub; intro z; cases z)
    | _ => exact absurd e (by unfold O.sub; intro z; cases z)
  | @mi a C dx p c fs os A1 hH hm rf =>
    cases s with
    | fld cs f =>
      unfold O.sub at e
      dsimp only at e
      split at e
      · obtain ⟨w, B1, Bc, B2, t1, t2, t3, t4⟩ := rf.look e
        refine ⟨w, a :: B1, Bc, B2, t2, fun _ => ?VV, by rw [t3]; simp, fun F' H' o' Ac' sm ag r'' => ?_⟩
        case VV => unfold subV; simp only [hH]; exact t1
        have := t4 F' H' o' Ac' sm (fun x m => ag x (m.imp (List.mem_cons_of_mem _) id)) r''
        show Ow G.tg G.K G.mg F' H' _ (.mi p c (setA os f o')) _
        simpa using Ow.mi (p := p) (by rw [ag a (.inl List.mem_cons_self)]; exact hH) hm this
      · cases e
    | _ => exact absurd e (by unfold O.sub; intro z; cases z)
  | @pin _ o _ r =>
    cases s with
    | un =>
      cases e
      exact ⟨_, [], _, [], r, (fun _ => by cases v0 <;> rfl), by simp, fun F' H' o' Ac' _ _ r'' => by simpa [O.sput] using Ow.pin r''⟩
    | _ => exact absurd e (by unfold O.sub; intro z; cases z)
  | @me a n kvs os A1 ha hH ra =>
    cases s with
    | «at» d =>
      obtain ⟨kk, j1, j2⟩ := bind_some (show ((keyD d).bind fun k => lookA os k) = some o2 from e)
      obtain ⟨w, B1, Bc, B2, t1, t2, t3, t4⟩ := ra.look j2
      refine ⟨w, a :: B1, Bc, B2, t2, fun _ => ?VV, by rw [t3]; simp, fun F' H' o' Ac' sm ag r'' => ?_⟩
      case VV => rename_i z; cases z
      have := t4 F' H' o' Ac' sm (fun x m => ag x (m.imp (List.mem_cons_of_mem _) id)) r''
      show Ow G.tg G.K G.mg F' H' _ (match keyD d with | some k => O.me n (setA os k o') | none => .me n os) _
      rw [j1]
      simpa using Ow.me ha (by rw [ag a (.inl List.mem_cons_self)]; exact hH) this
    | _ => exact absurd e (by unfold O.sub; intro z; cases z)
theorem zp_of : ∀ {p : List Stp} {v0 : V} {o0 o1 : O} {A0 : List Addr}, Ow G.tg G.K G.mg F H v0 o0 A0 → getP o0 p = some o1 → ∃ v1, Zp G F H v0 o0 A0 p v1 o1 ∧ (noMeP o0 p = true → getV F H v0 o0 p = some v1)
  | [], v0, o0, o1, A0, r, e => by cases e; exact ⟨v0, Zp.nil r, fun _ => rfl⟩
  | s :: p, v0, o0, o1, A0, r, e => by
    obtain ⟨o2, e1, e2⟩ := bind_some (show (o0.sub s).bind (fun o1 => getP o1 p) = some o1 from e)
    obtain ⟨v2, A1, Ac, A2, r2, hv, ea, up⟩ := sub_zp r e1
    obtain ⟨v1, ⟨g, B1, Bc, B2, r1, eb, up2⟩, hg⟩ := zp_of r2 e2
    refine ⟨v1, ⟨e, A1 ++ B1, Bc, B2 ++ A2, r1, by rw [ea, eb]; simp, fun F' H' o' Ac' sm ag r' => ?_⟩, fun n => ?_⟩
    case refine_2 =>
      unfold noMeP at n
      obtain ⟨n1, n2⟩ := and2 n
      rw [e1] at n2
      unfold getV
      rw [hv (by simpa using n1), e1]
      exact hg n2
    have eq : putP o0 (s :: p) o' = o0.sput s (putP o2 p o') := by
      show (match o0.sub s with | some o1 => o0.sput s (putP o1 p o') | none => o0) = _
      rw [e1]
    rw [eq]
    have := up F' H' (putP o2 p o') _ sm (fun a m => ag a (m.imp (List.mem_append_left _) (List.mem_append_right _))) (up2 F' H' o' Ac' sm (fun a m => ag a (m.imp (List.mem_append_right _) (List.mem_append_left _))) r')
    simpa using this
theorem PlS.of (R : Rl G B F0 L F A σ H) {i : Nat} {p : List Stp} {o0 o1 : O} (e : L[i]? = some (some o0)) (g : getP o0 p = some o1) : ∃ v v1, σ[i]? = some (some v) ∧ PlS G L A σ F H i p v1 o1 ∧ (noMeP o0 p = true → getV F H v o0 p = some v1) := by
  obtain ⟨v, A1, Ai, A2, h1, h2, h3, h4⟩ := R.os.get e
  obtain ⟨v1, z, hg⟩ := zp_of h2 g
  exact ⟨v, v1, h1, ⟨v, o0, A1, Ai, A2, h1, e, h3, z, h4⟩, hg⟩
end
end Eng
end
section
set_option Elab.async false
set_option linter.all false
set_option maxRecDepth 100000
set_option maxHeartbeats 4000000
namespace Eng
open PySem PySem.Spec PyProof.Rows L2
section
variable {tg tg' : Tg} {K : PySem.W.Frag} {mg : Str → Option Value} {F H : Hp}
end
section
variable {G : Gd} {Γ : Gm} {W : WX} {B : Bd} {F0 F H : Hp} {L : Sl} {A : List Addr} {σ : L2.St}
theorem Gm.Ok.wt {X : Cx} (ok : Γ.Ok G X) (t : Nat → Addr × Nat) : Γ.Ok (G.wt t) X := ⟨ok.prog, ok.w, ok.K, ok.mg, ok.base, ok.N, ok.nd, ok.sc, ok.kind, ok.calm, ok.room, ok.un, ok.pass, ok.fnl, ok.stk, ok.lm⟩
end
end Eng
end
section
set_option Elab.async false
set_option linter.all false
set_option maxRecDepth 100000
set_option maxHeartbeats 4000000
namespace Eng
open PySem PySem.Spec PyProof.Rows L2
def isDH : HO → Prop | .dK _ => True | .dT _ => True | _ => False
def Sim (w w' : HO) : Prop := w' = w ∨ (∃ o, isDH w ∧ w' = .frz o w) ∨ ∃ o u, w = .frz o u ∧ isDH u ∧ w' = u
def SimH (F F' : Hp) : Prop := ∀ a w, F a = some w → ∃ w', F' a = some w' ∧ Sim w w'
section
variable {tg : Tg} {K : PySem.W.Frag} {mg : Str → Option Value} {F F' H H' : Hp}
theorem SimH.keep (s : SimH F F') {a : Addr} {w : HO} (h : F a = some w) (h1 : ¬ isDH w) (h2 : ∀ o u, w = .frz o u → ¬ isDH u) : F' a = some w := by
  obtain ⟨w', e, z | ⟨o, d, z⟩ | ⟨o, u, z, d, _⟩⟩ := s a w h
  · rw [e, z]
  · exact absurd d h1
  · exact absurd d (h2 o u z)
theorem SimH.seq (s : SimH F F') {a : Addr} {xs : List V} (h : SqL K F a xs) : SqL K F' a xs := by
  rcases h with (h | ⟨o, h⟩) | h
  · exact .inl (.inl (s.keep h (fun z => z) (fun o u z => nomatch z)))
  · exact .inl (.inr ⟨o, s.keep h (fun z => z) (fun o u z => by cases z; exact fun z => z)⟩)
  · exact .inr h
theorem SimH.rd (s : SimH F F') {a : Addr} {u : HO} (hu : isDH u) (h : Rd F a u) : Rd F' a u := by
  rcases h with h | ⟨o, h⟩
  · obtain ⟨w', e, z | ⟨o, d, z⟩ | ⟨o, u', z, d, _⟩⟩ := s a _ h
    · exact .inl (by rw [e, z])
    · exact .inr ⟨o, by rw [e, z]⟩
    · subst z; exact hu.elim
  · obtain ⟨w', e, z | ⟨o', d, z⟩ | ⟨o', u', z, d, z'⟩⟩ := s a _ h
    · exact .inr ⟨o, by rw [e, z]⟩
    · exact d.elim
    · cases z; exact .inl (by rw [e, z'])
end
section
variable {F H : Hp} {a b : Addr} {o : Obj} {u : HO}
end
section
variable {G : Gd} {Γ : Gm} {W : WX} {B : Bd} {F0 F H : Hp} {L : Sl} {A : List Addr} {σ : L2.St} {a : Addr} {o : Obj} {u : HO}
theorem Kb.was {B : Hp} (s : Kb G B F0 H) (eH : H a = some u) (hu : isDH u) {w : HO} (e : B a = some w) : w = u := by
  by_cases k : ∃ ps, w = .tbl ps
  · obtain ⟨ps, rfl⟩ := k
    obtain ⟨ps', e'⟩ := s.kp.tb _ _ e
    rw [eH] at e'; cases e'; exact hu.elim
  · have := s.kp.at' _ _ e (fun ps z => k ⟨ps, z⟩)
    rw [eH] at this; cases this; rfl
end
end Eng
end
section
set_option Elab.async false
set_option linter.all false
set_option maxRecDepth 100000
set_option maxHeartbeats 4000000
namespace Eng
open PySem PySem.Spec PyProof.Rows L2
section
variable {G : Gd} {Γ : Gm} {W : WX} {B : Bd} {F0 F F1 H H1 : Hp} {L : Sl} {A : List Addr} {σ : L2.St}
def mItD (f : D → Option (List D)) (m : Sl → R D) : Sl → R (List D) := fun L => (m L).bind fun d => lift (f d)
end
end Eng
end
section
set_option Elab.async false
set_option linter.all false
set_option maxRecDepth 100000
set_option maxHeartbeats 4000000
namespace Eng
open PySem PySem.Spec PyProof.Rows L2
section
variable {G : Gd} {Γ : Gm} {W : WX} {B : Bd} {F0 F F1 H H1 : Hp} {L : Sl} {A : List Addr} {σ : L2.St}
section
variable {elt tg iter : Expr} {ifs : List Expr} {scope : Scope} {own : List (Str × Nat)} {ws : List Nat} {p pos spos : Pos} {f : D → Option (List D)} {m : Sl → R D} {gm : D → Sl → Option Sl} {tst : Sl → R Bool} {el : Sl → R D} {i : Nat} {y : Str}
end
end
end Eng
end
section
set_option Elab.async false
set_option linter.all false
set_option maxRecDepth 100000
set_option maxHeartbeats 4000000
namespace Eng
open PySem PySem.Spec PyProof.Rows L2
section
variable {G : Gd} {Γ : Gm} {W : WX} {B : Bd} {F0 F F1 H H1 : Hp} {L : Sl} {A : List Addr} {σ : L2.St}
def dsOf : List Ax → Option (List D)
  | [] => some []
  | .d x :: r => (dsOf r).map (x :: ·)
  | .pl q :: r => (dsOf r).map (q.o.fr :: ·)
  | _ => none
theorem AxR.ds {vs : List V} {xs : List Ax} {C : List Addr} {P : Option (Pq × V × List Addr)} (R : Rl G B F0 L F A σ H) (h : AxR G L A σ F H vs xs C P) : ∀ {ds : List D}, dsOf xs = some ds → RpA G.K G.mg (join F H A) vs ds := by
  have s1 : Same F (join F H A) := join_same fun a m => (R.fa a m).1
  induction h with
  | nil => intro ds e; cases e; exact .nil
  | d r _ ih => intro ds e; obtain ⟨d1, e1, e2⟩ := map_some (show (dsOf _).map _ = some ds from e); subst e2; exact .cons (r.mono s1) (ih e1)
  | o _ _ _ => intro ds e; cases e
  | mv _ _ _ => intro ds e; cases e
  | pl z _ ih =>
    intro ds e
    obtain ⟨d1, e1, e2⟩ := map_some (show (dsOf _).map _ = some ds from e)
    subst e2
    obtain ⟨S1, S2, ea, _⟩ := z.up
    exact .cons (Ow.fr (fun a m => (R.fa a m).1) (fun a m => by rw [ea]; simp [m]) z.ow) (ih e1)
def mCallV (fn : List D → R O) (m : Sl → R (List Ax)) : Sl → R O := fun L => (m L).bind fun xs => match dsOf xs with
  | some ds => (fn ds).bind fun o => if vOk L o.pl = true then .ok o else .stuck
  | none => .stuck
def mFV (f : List D → Option D) (m : Sl → R (List Ax)) : Sl → R D := fun L => (m L).bind fun xs => match (dsOf xs).bind f with
  | some d => if vOk L d.pl = true then .ok d else .stuck
  | none => .stuck
def putsO : List (Nat × Bool) → List O → Sl → RS
  | [], [], L => .next L
  | (i, fz) :: ts, o :: os, L => if okSet L i = true then putsO ts os (L.set i (some (if fz = true then .v o.fr else o))) else .stuck
  | _, _, _ => .stuck
inductive TNm (Γ : Gm) : List Expr → List Nat → Prop
  | nil : TNm Γ [] []
  | cons {i : Nat} {x : Str} {p : Pos} {es : List Expr} {is : List Nat} : stB Γ i x = true → TNm Γ es is → TNm Γ (.Name x p :: es) (i :: is)
theorem TNm.plain {es : List Expr} {is : List Nat} (h : TNm Γ es is) : es.all plainTg = true ∧ es.length = is.length := by
  induction h with
  | nil => exact ⟨rfl, rfl⟩
  | cons _ _ ih => exact ⟨by rw [List.all_cons, ih.1]; rfl, by rw [List.length_cons, List.length_cons, ih.2]⟩
def sTgO (ts : List (Nat × Bool)) (m : Sl → R O) : Sl → RS := sBind m fun o L => match o with
  | .mt os => if os.length = ts.length then putsO ts os L else .stuck
  | _ => .stuck
end
end Eng
end
section
set_option Elab.async false
set_option linter.all false
set_option maxRecDepth 100000
set_option maxHeartbeats 4000000
namespace Eng
open PySem PySem.Spec PyProof.Rows L2
section
variable {X : Cx} {CX : CXT} {k : Nat} {C f : Addr} {m : Str} {fd : FuncData} {ps : List Str} {sp : Sp} {E : L2.St → XK} {o e : Expr} {es : List Expr} {ta : TE} {t : TA} {apos pos : Pos}
end
section
variable {G : Gd} {Γ : Gm} {W : WX} {B : Bd} {F0 F F1 H H1 : Hp} {L : Sl} {A : List Addr} {σ : L2.St}
end
end Eng
end
section
set_option Elab.async false
set_option linter.all false
set_option maxRecDepth 100000
set_option maxHeartbeats 4000000
namespace Eng
open PySem PySem.Spec PyProof.Rows L2
section
variable {G : Gd} {Γ : Gm}
def mM1 (f : D → D → Option D) (a b : Sl → R D) : Sl → R D := fun L => (a L).bind fun x => (lift (lstD x)).bind fun _ => (b L).bind fun y => lift (f x y)
end
structure MthF (K : PySem.W.Frag) (c m qual : Str) (st : Stmt) : Prop where
  ex : ∃ (C f : Addr) (oc : Value) (od an : Option Addr) (osl : Array (Option Value)) (kV doc pm cdv ct : Value), PySem.W.nsIn K mainGlobals c = some (some (.ref C)) ∧
    PySem.W.findIn K (.ref C) m = some (some (.ref f)) ∧ K.lookup f = some ⟨oc, od, .func (PySem.W.fnOf m qual (defArgs st) (defBody st) (defScope st) .none kV doc pm an cdv ct), osl⟩ ∧ PySem.W.isFn K (.ref f) = true ∧ PySem.W.keepIn K (.ref f) = true ∧ PySem.W.codeIn K cdv qual = true ∧
    PySem.W.plainGet K C Str.empty = true ∧ PySem.W.hasDictIn K C = true ∧ PySem.W.plainOver K C = true ∧ PySem.W.findIn K (.ref C) "__setattr__" = some (some (.builtin "object.__setattr__"))
theorem MthF.ml {G : Gd} {h : Heap} {Γ : Gm} {c m qual : Str} {st : Stmt} {ps : List Str} {b : Sl → RS} {k : Nat} {fl : List Bool} (M : MthF G.K c m qual st) (X : G.K.In h) (N : h.Ns mainGlobals G.mg) (S : FnScope Γ.N ps (defScope st)) (hsc : Γ.sc = defScope st)
    (hb : ∀ (kV doc pm : Value) (an : Option Addr) (cdv ct : Value) (us : List Value), us.length = ps.length → bindArgs (PySem.W.fnOf m qual (defArgs st) (defBody st) (defScope st) .none kV doc pm an cdv ct) ⟨us, []⟩ = pure (ps.zip us)) (hk : Γ.k = k) (hfl : fl.length = ps.length)
    (cs : CSs G Γ (defBody st) b) (hlq : Γ.lq = none := by rfl) : MlX G ⟨c, m, k + 1, ps.length, runL Γ.N.length b fl⟩ := by
  obtain ⟨C, f, oc, od, an, osl, kV, doc, pm, cdv, ct, h1, h3, h2, h4, h5, h6, h7, h8, h9, h10⟩ := M.ex
  have F := fun_mk h2 h6 h5
  exact ⟨C, f, _, ps, rfl, PySem.W.mg_of X N h1, ⟨h7, h8, h9, h10⟩, ⟨h3, h4, h5⟩, F.binds hb, fnokL_of F S hsc hk hfl cs hlq⟩
end Eng
end
section
set_option Elab.async false
set_option linter.all false
set_option maxRecDepth 100000
set_option maxHeartbeats 4000000
namespace Eng
open PySem PySem.Spec PyProof.Rows L2
inductive RB where
  | ok (b : Bool) (L : Sl) | exc (c : Str) (L : Sl) | stuck
section
variable {G : Gd} {Γ : Gm} {W : WX} {B : Bd} {F0 F H : Hp} {L : Sl} {A : List Addr} {σ : L2.St}
def mCmpX (f : D → D → Option D) (ma : Sl → RX) (mb : Sl → R D) : Sl → RX := fun L => match ma L with
  | .ok o L' => (match mb L' with
    | .ok d => (match f o.fr d with | some r => .ok (.v r) L' | none => .stuck)
    | .exc c => .exc c L'
    | .stuck => .stuck)
  | .exc c L' => .exc c L'
  | .stuck => .stuck
def mBX (m : Sl → RX) : Sl → RB := fun L => match m L with
  | .ok (.v (.bl b)) L' => .ok b L'
  | .exc c L' => .exc c L'
  | _ => .stuck
def sIfX (c : Sl → RB) (a b : Sl → RS) : Sl → RS := fun L => match c L with | .ok x L' => if x = true then a L' else b L' | .exc c L' => .exc c L' | .stuck => .stuck
end
end Eng
end
section
set_option Elab.async false
set_option linter.all false
namespace Eng
open PySem L2
@[simp] theorem ap_xNil {L : Sl} : xNil L = .ok [] := by rfl
@[simp] theorem ap_xD {m : Sl → R D} {r : Sl → R (List Ax)} {L : Sl} : xD m r L = (m L).bind fun x => (r L).bind fun xs => .ok (.d x :: xs) := by rfl
@[simp] theorem ap_xPl {m : Sl → R Pq} {r : Sl → R (List Ax)} {L : Sl} : xPl m r L = (m L).bind fun x => (r L).bind fun xs => if xs.any isPl = true then .stuck else .ok (.pl x :: xs) := by rfl
@[simp] theorem isPl_d {x : D} : isPl (.d x) = false := by rfl
@[simp] theorem dsOf_nil : dsOf [] = some [] := by rfl
@[simp] theorem dsOf_d {x : D} {r : List Ax} : dsOf (.d x :: r) = (dsOf r).map (x :: ·) := by rfl
@[simp] theorem dsOf_pl {q : Pq} {r : List Ax} : dsOf (.pl q :: r) = (dsOf r).map (q.o.fr :: ·) := by rfl
def cvR (fn : List D → R O) (L : Sl) : Option (List D) → R O
  | some ds => (fn ds).bind fun o => if vOk L o.pl = true then .ok o else .stuck
  | none => .stuck
@[simp] theorem ap_mCallV {fn : List D → R O} {m : Sl → R (List Ax)} {L : Sl} : mCallV fn m L = (m L).bind fun xs => cvR fn L (dsOf xs) := by
  unfold mCallV; congr 1
@[simp] theorem cvR_some {fn : List D → R O} {L : Sl} {ds : List D} : cvR fn L (some ds) = (fn ds).bind fun o => if vOk L o.pl = true then .ok o else .stuck := by rfl
def fvR (L : Sl) : Option D → R D
  | some d => if vOk L d.pl = true then .ok d else .stuck
  | none => .stuck
@[simp] theorem ap_mFV {f : List D → Option D} {m : Sl → R (List Ax)} {L : Sl} : mFV f m L = (m L).bind fun xs => fvR L ((dsOf xs).bind f) := by
  unfold mFV; congr 1
@[simp] theorem fvR_some {L : Sl} {d : D} : fvR L (some d) = if vOk L d.pl = true then .ok d else .stuck := by rfl
@[simp] theorem vOk_vd {L : Sl} {d : D} : vOk L (O.v d).pl = vOk L d.pl := by rfl
@[simp] theorem vOk_fbl {L : Sl} {b : Bool} : (vOk L fun i => D.pl i (D.bl b)) = true := by rfl
def xOut (k : O → Sl → RS) : RX → RS
  | .ok o L => k o L
  | .exc c L => .exc c L
  | .stuck => .stuck
@[simp] theorem ap_sX {m : Sl → RX} {k : O → Sl → RS} {L : Sl} : sX m k L = xOut k (m L) := by unfold sX xOut; rfl
@[simp] theorem ap_sXDrop {m : Sl → RX} {L : Sl} : sXDrop m L = xOut (fun _ L => .next L) (m L) := by unfold sXDrop; rw [ap_sX]
@[simp] theorem ap_sXRet {m : Sl → RX} {L : Sl} : sXRet m L = xOut (fun o L => .ret o L) (m L) := by unfold sXRet; rw [ap_sX]
@[simp] theorem ap_sXSetO {i : Nat} {m : Sl → RX} {L : Sl} : sXSetO i m L = xOut (fun o L => if okSet L i = true then .next (L.set i (some o)) else .stuck) (m L) := by unfold sXSetO; rw [ap_sX]
@[simp] theorem ap_sXSet {i : Nat} {m : Sl → RX} {L : Sl} : sXSet i m L = xOut (fun o L => if okSet L i = true then .next (L.set i (some (.v o.fr))) else .stuck) (m L) := by unfold sXSet; rw [ap_sX]
@[simp] theorem xOut_ok {k : O → Sl → RS} {o : O} {L : Sl} : xOut k (.ok o L) = k o L := by rfl
@[simp] theorem xOut_exc {k : O → Sl → RS} {c : Str} {L : Sl} : xOut k (.exc c L) = .exc c L := by rfl
def cmpOut (f : D → D → Option D) (mb : Sl → R D) : RX → RX
  | .ok o L' => (match mb L' with
    | .ok d => (match f o.fr d with | some r => .ok (.v r) L' | none => .stuck)
    | .exc c => .exc c L'
    | .stuck => .stuck)
  | .exc c L' => .exc c L'
  | .stuck => .stuck
@[simp] theorem ap_mCmpX {f : D → D → Option D} {ma : Sl → RX} {mb : Sl → R D} {L : Sl} : mCmpX f ma mb L = cmpOut f mb (ma L) := by unfold mCmpX cmpOut; rfl
def bOut : RX → RB
  | .ok (.v (.bl b)) L' => .ok b L'
  | .exc c L' => .exc c L'
  | _ => .stuck
@[simp] theorem ap_mBX {m : Sl → RX} {L : Sl} : mBX m L = bOut (m L) := by unfold mBX bOut; rfl
@[simp] theorem bOut_ok {b : Bool} {L : Sl} : bOut (.ok (.v (.bl b)) L) = .ok b L := by rfl
def ifOut (a b : Sl → RS) : RB → RS
  | .ok x L' => if x = true then a L' else b L'
  | .exc c L' => .exc c L'
  | .stuck => .stuck
@[simp] theorem ap_sIfX {c : Sl → RB} {a b : Sl → RS} {L : Sl} : sIfX c a b L = ifOut a b (c L) := by unfold sIfX ifOut; rfl
@[simp] theorem ifOut_ok {a b : Sl → RS} {x : Bool} {L : Sl} : ifOut a b (.ok x L) = if x = true then a L else b L := by rfl
@[simp] theorem ap_mM1 {f : D → D → Option D} {a b : Sl → R D} {L : Sl} : mM1 f a b L = (a L).bind fun x => (lift (lstD x)).bind fun _ => (b L).bind fun y => lift (f x y) := by rfl
end Eng
end
section
set_option Elab.async false
set_option linter.all false
set_option maxRecDepth 100000
set_option maxHeartbeats 4000000
namespace Eng
open PySem PySem.Spec PyProof.Rows L2
section
variable {G : Gd} {Γ : Gm} {W : WX}
end
end Eng
end
section
set_option Elab.async false
set_option linter.all false
set_option maxRecDepth 100000
set_option maxHeartbeats 4000000
namespace Eng
open PySem PySem.Spec PyProof.Rows L2
section
variable {G : Gd} {Γ : Gm} {W : WX}
end
end Eng
end
section
set_option Elab.async false
set_option linter.all false
set_option maxRecDepth 100000
set_option maxHeartbeats 4000000
namespace Eng
open PySem PySem.Spec PyProof.Rows L2
section
variable {K : PySem.W.Frag}
theorem DefF.of {x : Str} {st : Stmt} {f : Addr} {oc : Value} {od an : Option Addr} {osl : Array (Option Value)} {kV doc pm cdv ct : Value} (h1 : PySem.W.nsIn K mainGlobals x = some (some (.ref f)))
    (h2 : K.lookup f = some ⟨oc, od, .func (PySem.W.fnOf x x (defArgs st) (defBody st) (defScope st) .none kV doc pm an cdv ct), osl⟩) (h3 : PySem.W.codeIn K cdv x = true) (h4 : PySem.W.keepIn K (.ref f) = true) : DefF K x st :=
  ⟨⟨_, _, _, _, _, _, _, _, _, _, h1, h2, h3, h4⟩⟩
theorem MthF.of {c m qual : Str} {st : Stmt} {C f : Addr} {oc : Value} {od an : Option Addr} {osl : Array (Option Value)} {kV doc pm cdv ct : Value} (h1 : PySem.W.nsIn K mainGlobals c = some (some (.ref C)))
    (h2 : PySem.W.findIn K (.ref C) m = some (some (.ref f))) (h3 : K.lookup f = some ⟨oc, od, .func (PySem.W.fnOf m qual (defArgs st) (defBody st) (defScope st) .none kV doc pm an cdv ct), osl⟩) (h4 : PySem.W.isFn K (.ref f) = true) (h5 : PySem.W.keepIn K (.ref f) = true) (h6 : PySem.W.codeIn K cdv qual = true)
    (h7 : PySem.W.plainGet K C Str.empty = true) (h8 : PySem.W.hasDictIn K C = true) (h9 : PySem.W.plainOver K C = true) (h10 : PySem.W.findIn K (.ref C) "__setattr__" = some (some (.builtin "object.__setattr__"))) : MthF K c m qual st :=
  ⟨⟨_, _, _, _, _, _, _, _, _, _, _, h1, h2, h3, h4, h5, h6, h7, h8, h9, h10⟩⟩
inductive NoAs (K : PySem.W.Frag) (C : Addr) : List Str → Prop
  | nil : NoAs K C []
  | cons {f : Str} {r : List Str} (h : PySem.W.findIn K (.ref C) f = some none) (t : NoAs K C r) : NoAs K C (f :: r)
theorem noAs_mem {C : Addr} {l : List Str} (n : NoAs K C l) : ∀ g ∈ l, NoAttr K C g := by
  induction n with
  | nil => exact fun _ m => nomatch m
  | cons h _ ih => exact fun g m => by cases m with | head => exact h | tail _ m => exact ih g m
theorem MkF.of {c qual : Str} {st : Stmt} {fl : List Str} {C f : Addr} {oc : Value} {od an : Option Addr} {osl : Array (Option Value)} {kV doc pm cdv ct : Value} (h1 : PySem.W.nsIn K mainGlobals c = some (some (.ref C)))
    (h2 : PySem.W.findIn K (.ref C) "__init__" = some (some (.ref f))) (h3 : K.lookup f = some ⟨oc, od, .func (PySem.W.fnOf "__init__" qual (defArgs st) (defBody st) (defScope st) .none kV doc pm an cdv ct), osl⟩) (h4 : PySem.W.isFn K (.ref f) = true) (h5 : PySem.W.keepIn K (.ref f) = true) (h6 : PySem.W.codeIn K cdv qual = true)
    (h7 : PySem.W.makesIn K C = true) (h8 : PySem.W.keepIn K (.ref C) = true) (h9 : PySem.W.plainGet K C Str.empty = true) (h10 : PySem.W.hasDictIn K C = true) (h11 : PySem.W.plainOver K C = true) (h12 : PySem.W.findIn K (.ref C) "__setattr__" = some (some (.builtin "object.__setattr__")))
    (h13 : NoAs K C fl) : MkF K c qual st fl :=
  ⟨⟨_, _, _, _, _, _, _, _, _, _, _, h1, h2, h3, h4, h5, h6, h7, h8, h9, h10, h11, h12, noAs_mem h13⟩⟩
theorem ExF.of {c : Str} {C : Addr} (h1 : PySem.W.nsIn K mainGlobals c = some (some (.ref C))) (h2 : PySem.W.excIn K C [.type "ValueError", .type "Exception", .type "BaseException", .type "object"] "ValueError.__new__" = true) (h3 : PySem.W.keepIn K (.ref C) = true)
    (h4 : PySem.W.subIn K (.ref C) (.type "BaseException") = some true) (h5 : PySem.W.typeIn K (.ref C) = some (.type "type")) : ExF K c := ⟨⟨_, h1, h2, h3, h4, h5⟩⟩
theorem MtF.of1 {c h : Str} {b : Bool} {C D : Addr} (h1 : PySem.W.nsIn K mainGlobals c = some (some (.ref C))) (h2 : PySem.W.nsIn K mainGlobals h = some (some (.ref D)))
    (e1 : PySem.W.subIn K (.ref D) (.type "BaseException") = some true) (e2 : PySem.W.hasDictIn K D = true) (e3 : PySem.W.typeIn K (.ref D) = some (.type "type")) (e4 : PySem.W.subIn K (.ref C) (.ref D) = some b)
    (h4 : PySem.W.kitOne K (.ref C) (.ref D) = some b) : MtF K c h b :=
  ⟨⟨_, _, h1, .inl ⟨_, rfl, h2⟩, (fun _ e => by cases e; exact PySem.W.exm_ref e1 e2 e3 e4), h4⟩⟩
theorem MtF.of2 {c h : Str} {b : Bool} {C : Addr} {n : String} (h1 : PySem.W.nsIn K mainGlobals c = some (some (.ref C))) (h2 : PySem.W.nsIn K mainGlobals h = some none) (h3 : bootBuiltins h = some (.type n)) (h4 : h ≠ "__name__")
    (h5 : PySem.W.kitOne K (.ref C) (.type n) = some b) : MtF K c h b :=
  ⟨⟨_, _, h1, .inr ⟨_, rfl, h2, h3, h4⟩, (fun _ z => nomatch z), h5⟩⟩
theorem InsF.of {c : Str} {C : Addr} (h1 : PySem.W.nsIn K mainGlobals c = some (some (.ref C))) (h2 : PySem.W.findIn K (.ref C) "__class__" = some (some (.builtin "object.__class__")))
    (h3 : PySem.W.specialIn K (.builtin "object.__class__") "__get__" = some (some (.builtin "getset_descriptor.__get__"))) (h4 : PySem.W.takesIn K (.builtin "object.__class__") = some true) (h5 : PySem.W.mroIn K C (.type "object") = some true) : InsF K c := ⟨⟨_, h1, h2, h3, h4, h5⟩⟩
theorem EcF.of {c : Str} {C : Addr} (h1 : PySem.W.nsIn K mainGlobals c = some (some (.ref C))) (hg : PySem.W.findIn K (.ref C) "__getattribute__" = some (some (.builtin "BaseException.__getattribute__"))) (hk : PySem.W.findIn K (.ref C) "__getattr__" = some none)
    (hs : PySem.W.subIn K (.ref C) (.type "BaseException") = some true) (hd : PySem.W.hasDictIn K C = true) (ha : PySem.W.findIn K (.ref C) "__class__" = some (some (.builtin "object.__class__")))
    (hn : PySem.W.specialIn K (.builtin "object.__class__") "__get__" = some (some (.builtin "getset_descriptor.__get__"))) (ht : PySem.W.takesIn K (.builtin "object.__class__") = some true) (hm : PySem.W.mroIn K C (.type "object") = some true) : EcF K c :=
  ⟨⟨_, h1, ⟨hg, hk, hs, hd, ha, hn, ht, hm⟩⟩⟩
theorem str_of {x : Str} {c : Str} {t : Tok} (h : PySem.W.nsIn K mainGlobals x = some (some (.str c t))) : ∃ t, PySem.W.nsIn K mainGlobals x = some (some (.str c t)) := ⟨_, h⟩
theorem int_of {x : Str} {i : Int} {t : Tok} (h : PySem.W.nsIn K mainGlobals x = some (some (.int i t))) : ∃ t, PySem.W.nsIn K mainGlobals x = some (some (.int i t)) := ⟨_, h⟩
end
end Eng
end
section
set_option Elab.async false
set_option linter.all false
set_option maxRecDepth 100000
set_option maxHeartbeats 4000000
namespace Eng
open PySem PySem.Spec PyProof.Rows L2
section
variable {prog : Program} {w : World} {A : Around} {E : Value → Shared → Prop} {s : Shared} {cenv : Env} {x : Str} {t : Addr} {m : Str → Option Value} {l : List Value} {Q : Value → Shared → Prop}
def KRA (n : Nat) (h : Heap) (v : Value) (k : PyData) : Prop := ∃ t l z tok, v = .ref t ∧ IsTup h t (l : List Value).toArray ∧ l[n]? = some (.str z tok) ∧ k = .str z
def KRB (n m : Nat) (h : Heap) (v : Value) (k : PyData) : Prop := ∃ t l i z tok tok', v = .ref t ∧ IsTup h t (l : List Value).toArray ∧ l[n]? = some (.int i tok) ∧ l[m]? = some (.str z tok') ∧ k = .tuple [.int i, .str z]
theorem KRA.keep {n : Nat} {h h' : Heap} {v : Value} {k : PyData} (kp : ∀ b o, h.get? b = some o → h'.get? b = some o) (r : KRA n h v k) : KRA n h' v k := by
  obtain ⟨t, l, z, tok, e1, ⟨o, h1, h2⟩, e3, e4⟩ := r
  exact ⟨t, l, z, tok, e1, ⟨o, kp _ _ h1, h2⟩, e3, e4⟩
theorem KRB.keep {n m : Nat} {h h' : Heap} {v : Value} {k : PyData} (kp : ∀ b o, h.get? b = some o → h'.get? b = some o) (r : KRB n m h v k) : KRB n m h' v k := by
  obtain ⟨t, l, i, z, tok, tok', e1, ⟨o, h1, h2⟩, e3, e4, e5⟩ := r
  exact ⟨t, l, i, z, tok, tok', e1, ⟨o, kp _ _ h1, h2⟩, e3, e4, e5⟩
end
section
variable {X : Cx} {pins : List (Addr × Obj)} {σ : L2.St} {H : Hp} {s : Shared} {a : Addr}
end
end Eng
end
section
set_option Elab.async false
set_option linter.all false
set_option maxRecDepth 100000
set_option maxHeartbeats 4000000
namespace Eng
open PySem PySem.Spec PyProof.Rows L2
section
variable {G : Gd} {X : Cx} {pins : List (Addr × Obj)} {σ : L2.St} {H : Hp} {s : Shared}
end
section
variable {X : Cx} {pins : List (Addr × Obj)} {σ : L2.St} {H F : Hp} {s : Shared} {K : PySem.W.Frag} {mg : Str → Option Value} {v : V} {u : Value} {k : PyData}
end
section
variable {G : Gd} {Γ : Gm} {W : WX} {B : Bd} {F0 F H : Hp} {L : Sl} {A : List Addr} {σ : L2.St}
end
end Eng
end
section
set_option Elab.async false
set_option linter.all false
set_option maxRecDepth 100000
set_option maxHeartbeats 4000000
namespace Eng
open PySem PySem.Spec PyProof.Rows L2
section
variable {G : Gd} {Γ : Gm} {W : WX} {B : Bd} {F0 F H : Hp} {L : Sl} {A : List Addr} {σ : L2.St}
theorem Kb.less {Bh F0 H : Hp} {C : List Addr} (s : Kb G Bh F0 H) (hB : ∀ a ∈ C, Bh a = none) (hM : ∀ a ∈ C, ∃ u, H a = some u ∧ MutO u) : Kb G Bh F0 (less H C) :=
  ⟨s.kp.mut (A := C) (fun x n _ => by unfold Eng.less; rw [if_neg n]) hB hM, s.tb⟩
end
section
variable {G : Gd} {Γ : Gm}
end
structure DefC (K : PySem.W.Frag) (x : Str) (st : Stmt) (c P : Addr) : Prop where
  ex : ∃ (f : Addr) (oc : Value) (od an : Option Addr) (osl : Array (Option Value)) (kV doc pm ct : Value), PySem.W.nsIn K mainGlobals x = some (some (.ref f)) ∧
    K.lookup f = some ⟨oc, od, .func (PySem.W.fnOf x x (defArgs st) (defBody st) (defScope st) .none kV doc pm an (.ref c) ct), osl⟩ ∧ PySem.W.codeIn K (.ref c) x = true ∧ PySem.W.keepIn K (.ref f) = true
  hd : PySem.W.codeHdIn K c P = true
  np : K.lookup P = none
theorem DefC.of {K : PySem.W.Frag} {x : Str} {st : Stmt} {c P f : Addr} {oc : Value} {od an : Option Addr} {osl : Array (Option Value)} {kV doc pm ct : Value} (h1 : PySem.W.nsIn K mainGlobals x = some (some (.ref f)))
    (h2 : K.lookup f = some ⟨oc, od, .func (PySem.W.fnOf x x (defArgs st) (defBody st) (defScope st) .none kV doc pm an (.ref c) ct), osl⟩) (h3 : PySem.W.codeIn K (.ref c) x = true) (h4 : PySem.W.keepIn K (.ref f) = true)
    (h5 : PySem.W.codeHdIn K c P = true) (h6 : K.lookup P = none) : DefC K x st c P := ⟨⟨_, _, _, _, _, _, _, _, _, h1, h2, h3, h4⟩, h5, h6⟩
theorem DefC.fnx {G : Gd} {h : Heap} {Γ : Gm} {x q : Str} {st : Stmt} {ps : List Str} {m : Sl → RS} {k : Nat} {c P : Addr} (D : DefC G.K x st c P) (X : G.K.In h) (N : h.Ns mainGlobals G.mg) (TB : LamX.TabB G.base G.mg c P) (hm : (P, q) ∈ G.T) (hu : ∀ p ∈ G.T, p.1 = P → p.2 = q)
    (hq : ∀ (n : Nat) (f : Addr) (cv : Value), (envOfC x (defScope st) n f cv).qual ++ "<lambda>" = q) (hlq : Γ.lq = some q) (S : FnScope Γ.N ps (defScope st)) (hsc : Γ.sc = defScope st)
    (hb : BindB st x ps) (hk : Γ.k = k) (cc : CSs G Γ (defBody st) m) : FnX G ⟨x, k + 1, ps.length, runD Γ.N.length m ps.length⟩ := by
  obtain ⟨f, oc, od, an, osl, kV, doc, pm, ct, h1, h2, h3, h4⟩ := D.ex
  have Fu := fun_mk (x := x) (qual := x) (st := st) h2 h3 h4
  refine ⟨f, _, ps, rfl, PySem.W.mg_of X N h1, h4, Fu.binds hb, ?_⟩
  subst hk
  refine fn_of h2 h3 S (fun vs H Q E h => ?_) (fun A outer s H vs Q E hr h => ?_)
  · obtain ⟨F0, ds, s0, tb, r, h⟩ := h
    rw [r.length]
    by_cases e : ds.length = ps.length
    · exact e
    · have z : runD Γ.N.length m ps.length ds = .stuck := if_neg e
      dsimp only at h
      rw [z] at h; exact h.elim
  · obtain ⟨F0, ds, s0, tb, r, h⟩ := h
    dsimp only at h
    have hlen : ds.length = ps.length := by
      by_cases e : ds.length = ps.length
      · exact e
      · have z : runD Γ.N.length m ps.length ds = .stuck := if_neg e
        rw [z] at h; exact h.elim
    have hrun : runD Γ.N.length m ps.length ds = out (m (sl0 Γ.N.length ds)) := if_pos hlen
    rw [hrun] at h
    refine ⟨tS G (fun cls d _ H' => E cls d H') m, cc _ ⟨rfl, rfl, rfl, rfl, rfl, rfl, S.nd, hsc.symm, S.kind, fun _ => rfl, fun _ => hr, un_of hr, passes_of rfl, fun _ _ => .inl rfl, fun _ => ⟨rfl, rfl⟩, fun q' e => ?_⟩ _ (takes_of rfl rfl rfl rfl), ?_⟩
    · rw [hlq] at e
      cases e
      exact ⟨hq _ _ _, c, P, rfl, TB, hm, hu⟩
    refine ⟨⟨H, []⟩, F0, sl0 Γ.N.length ds, F0, [], ⟨?_, List.nodup_nil, s0, .refl _, ⟨.refl _, tb⟩, fun _ e _ => e, fun _ m => (nomatch m), fun _ m => nomatch m⟩, ?_⟩
    · unfold L2.start sl0
      rw [r.length]
      exact ow0 r
    · cases e : m (sl0 Γ.N.length ds) with
      | next L =>
        rw [e] at h
        rintro σ' H' ⟨F', A', s', R'⟩
        exact h .non H' (ret_v R' .non).ret
      | ret o L => rw [e] at h; exact fun v H' q => h v H' q.ret
      | exc c L =>
        rw [e] at h
        obtain ⟨C, eC, h⟩ := h
        exact ⟨C, eC, fun σ' H' ⟨F', A', s', R'⟩ => h H' R'.sb.kp (R'.f0.trans R'.sf)⟩
      | brk L => rw [e] at h; exact h.elim
      | cont L => rw [e] at h; exact h.elim
      | stuck => rw [e] at h; exact h.elim
end Eng
end
section
set_option Elab.async false
set_option linter.all false
set_option maxRecDepth 100000
set_option maxHeartbeats 4000000
namespace Eng
open PySem PySem.Spec PyProof.Rows L2
section
variable {P : Program} {w : World} {A : Around} {E : Value → Shared → Prop} {s : Shared}
def SetS (P : Program) (w : World) (h : Heap) (a : Addr) (zs : List Str) : Prop :=
  ∃ (o : Obj) (es : Array (Int × Value)) (ep : Nat) (t : SetTable) (ys : List Str), h.get? a = some o ∧ o.ExactSet ∧ o.data = .set es ep t ∧ ElemsOf (strKind P w) es.toList ∧ StrsAre (es.toList.map (·.2)) ys ∧ ys.Perm zs ∧ zs.Nodup ∧ es.size < scanBound ∧ t.fits es.size = true ∧ Ris t.place.toList ∧ (w.params.followText "set-order" = true ∨ t.led = true)
theorem SetS.keep {h h' : Heap} {a : Addr} {zs : List Str} (q : SetS P w h a zs) (k : ∀ o, h.get? a = some o → h'.get? a = some o) : SetS P w h' a zs := by
  obtain ⟨o, es, ep, t, ys, ho, r⟩ := q
  exact ⟨o, es, ep, t, ys, k o ho, r⟩
def ddr (xs : List Str) : List Str := xs.foldl (fun a z => if z ∈ a then a else a ++ [z]) []
end
def fSortSet : D → Option O
  | .lst ds => (strsD ds).bind fun xs => if xs.length ≤ 60 then some (.ml ((sortD ((ddr xs).map .str)).map .v)) else none
  | _ => none
def mSortSet (m : Sl → R D) : Sl → R O := fun L => (m L).bind fun d => lift (fSortSet d)
section
variable {G : Gd} {Γ : Gm}
end
end Eng
end
section
set_option Elab.async false
set_option linter.all false
namespace Eng
open PySem L2
def xnR (L : Sl) : R O → RX
  | .ok o => .ok o L
  | .exc c => .exc c L
  | .stuck => .stuck
@[simp] theorem ap_xN {m : Sl → R O} {L : Sl} : xN m L = xnR L (m L) := by unfold xN xnR; rfl
@[simp] theorem ap_xE {m : Sl → R D} {L : Sl} : xE m L = xnR L ((m L).bind fun d => .ok (.v d)) := by
  unfold xE xnR
  cases m L <;> rfl
@[simp] theorem xnR_ok {L : Sl} {o : O} : xnR L (.ok o) = .ok o L := by rfl
@[simp] theorem ap_xM {i : Nat} {L : Sl} : xM i L = (match L[i]? with | some (some o) => if okSet L i = true then .ok o (L.set i none) else .stuck | _ => .stuck) := by rfl
def putR (q : Pq) (o : O) (L : Sl) : Option O → RS
  | some o' => .next (stPut L q.i q.p o')
  | none => .stuck
@[simp] theorem putR_some {q : Pq} {o o' : O} {L : Sl} : putR q o L (some o') = .next (stPut L q.i q.p o') := by rfl
@[simp] theorem ap_sPutX {m : Sl → RX} {mp : Sl → R Pq} {mk : Sl → R D} {L : Sl} : sPutX m mp mk L = xOut (fun o L' => bindS (mp L') (fun q L => bindS (mk L) (fun k L => putR q o L (dputO q.o k o)) L) L') (m L) := by
  unfold sPutX
  rw [ap_sX]
  congr 1
@[simp] theorem ap_sTgO {ts : List (Nat × Bool)} {m : Sl → R O} {L : Sl} : sTgO ts m L = bindS (m L) (fun o L => match o with
  | .mt os => if os.length = ts.length then putsO ts os L else .stuck
  | _ => .stuck) L := by rfl
@[simp] theorem putsO_nil {L : Sl} : putsO [] [] L = .next L := by rfl
@[simp] theorem putsO_cons {i : Nat} {fz : Bool} {ts : List (Nat × Bool)} {o : O} {os : List O} {L : Sl} : putsO ((i, fz) :: ts) (o :: os) L = if okSet L i = true then putsO ts os (L.set i (some (if fz = true then .v o.fr else o))) else .stuck := by rfl
def tgR (g : D → Sl → Option Sl) (o : O) (L : Sl) : RS := match g o.fr L with | some L' => .next L' | none => .stuck
@[simp] theorem ap_sXTg {g : D → Sl → Option Sl} {m : Sl → RX} {L : Sl} : sXTg g m L = xOut (fun o L => tgR g o L) (m L) := by unfold sXTg tgR; rw [ap_sX]; try rfl
@[simp] theorem ap_mItD {f : D → Option (List D)} {m : Sl → R D} {L : Sl} : mItD f m L = (m L).bind fun d => lift (f d) := by rfl
@[simp] theorem ap_mSortSet {m : Sl → R D} {L : Sl} : mSortSet m L = (m L).bind fun d => lift (fSortSet d) := by rfl
end Eng
end
section
set_option Elab.async false
set_option linter.all false
set_option maxRecDepth 100000
set_option maxHeartbeats 4000000
namespace Eng
open PySem PySem.Spec PyProof.Rows L2
section
variable {K : PySem.W.Frag} {mg : Str → Option Value} {F1 F2 : Hp}
end
section
variable {X : Cx} {pins : List (Addr × Obj)} {σ : L2.St} {H : Hp} {s : Shared} {mg : Str → Option Value} {F1 F2 : Hp}
end
section
variable {G : Gd} {Γ : Gm}
end
section
variable {G : Gd} {Γ : Gm} {W : WX} {B : Bd} {F0 F H : Hp} {L : Sl} {A : List Addr} {σ : L2.St}
def mLstRg (m : Sl → R D) : Sl → R O := fun L => (m L).bind fun d => match d with | .int j => if 0 ≤ j ∧ j ≤ 16777216 then .ok (.ml ((rng 0 j.toNat).map .v)) else .stuck | _ => .stuck
@[simp] theorem ap_mLstRg {m : Sl → R D} {L : Sl} : mLstRg m L = (m L).bind fun d => match d with | .int j => if 0 ≤ j ∧ j ≤ 16777216 then .ok (.ml ((rng 0 j.toNat).map .v)) else .stuck | _ => .stuck := by rfl
end
end Eng
end
section
set_option Elab.async false
set_option linter.all false
set_option maxRecDepth 100000
set_option maxHeartbeats 4000000
namespace Eng
open PySem PySem.Spec PyProof.Rows L2
section
variable {G : Gd} {Γ : Gm} {W : WX} {B : Bd} {F0 F H : Hp} {L : Sl} {A : List Addr} {σ : L2.St}
section
variable {elt tg iter : Expr} {ifs : List Expr} {scope : Scope} {own : List (Str × Nat)} {ws : List Nat} {p pos spos : Pos} {gm : D → Sl → Option Sl} {tst : Sl → R Bool} {el : Sl → R D} {i : Nat} {y : Str}
end
def mAddL (a b : Sl → R D) : Sl → R O := fun L => (a L).bind fun x => (b L).bind fun y => match x, y with
  | .lst xs, .lst ys => if xs.length + ys.length ≤ sizeLine then .ok (.ml ((xs ++ ys).map .v)) else .stuck
  | _, _ => .stuck
def kindD : D → Option String
  | .non => some "NoneType" | .bl _ => some "bool" | .int _ => some "int" | .str _ => some "str" | .lst _ => some "list" | .tup _ => some "tuple" | .dk _ => some "dict" | .dt _ => some "dict"
  | _ => none
def fIsA (t : String) (d : D) : Option D := (kindD d).bind fun k => (kitB k t).map .bl
def anyB (k : String) : List String → Option Bool
  | [] => some false
  | t :: ts => match kitB k t with | some true => some true | some false => anyB k ts | none => none
def fIsAT (ts : List String) (d : D) : Option D := (kindD d).bind fun k => (anyB k ts).map .bl
end
end Eng
end
section
set_option Elab.async false
set_option linter.all false
set_option maxRecDepth 100000
set_option maxHeartbeats 4000000
namespace Eng
open PySem PySem.Spec PyProof.Rows L2
section
variable {G : Gd} {Γ : Gm}
end
end Eng
end
section
set_option Elab.async false
set_option linter.all false
set_option maxRecDepth 100000
set_option maxHeartbeats 4000000
namespace Eng
open PySem PySem.Spec PyProof.Rows L2
section
variable {G : Gd} {Γ : Gm}
end
end Eng
end
section
set_option Elab.async false
set_option linter.all false
namespace Eng
open PySem L2
@[simp] theorem ap_mAddL {a b : Sl → R D} {L : Sl} : mAddL a b L = (a L).bind fun x => (b L).bind fun y => (match x, y with
  | .lst xs, .lst ys => if xs.length + ys.length ≤ 16777216 then .ok (.ml ((xs ++ ys).map .v)) else .stuck
  | _, _ => .stuck) := by rfl
@[simp] theorem isAT_lst {xs : List D} : fIsAT ["list", "tuple"] (.lst xs) = some (.bl true) := by rfl
@[simp] theorem isAT_tup {xs : List D} : fIsAT ["list", "tuple"] (.tup xs) = some (.bl true) := by rfl
@[simp] theorem isAT_dk {xs : List (Key × D)} : fIsAT ["list", "tuple"] (.dk xs) = some (.bl false) := by rfl
@[simp] theorem isAT_dt {xs : List (List Key × D)} : fIsAT ["list", "tuple"] (.dt xs) = some (.bl false) := by rfl
@[simp] theorem isAT_str {z : Str} : fIsAT ["list", "tuple"] (.str z) = some (.bl false) := by rfl
@[simp] theorem isAT_int {i : Int} : fIsAT ["list", "tuple"] (.int i) = some (.bl false) := by rfl
@[simp] theorem isA_lst_lst {xs : List D} : fIsA "list" (.lst xs) = some (.bl true) := by rfl
@[simp] theorem isA_lst_tup {xs : List D} : fIsA "list" (.tup xs) = some (.bl false) := by rfl
@[simp] theorem isA_tup_lst {xs : List D} : fIsA "tuple" (.lst xs) = some (.bl false) := by rfl
@[simp] theorem isA_tup_tup {xs : List D} : fIsA "tuple" (.tup xs) = some (.bl true) := by rfl
@[simp] theorem isA_dict_dk {xs : List (Key × D)} : fIsA "dict" (.dk xs) = some (.bl true) := by rfl
@[simp] theorem isA_dict_dt {xs : List (List Key × D)} : fIsA "dict" (.dt xs) = some (.bl true) := by rfl
@[simp] theorem isA_dict_str {z : Str} : fIsA "dict" (.str z) = some (.bl false) := by rfl
@[simp] theorem isA_dict_int {i : Int} : fIsA "dict" (.int i) = some (.bl false) := by rfl
@[simp] theorem isA_str_str {z : Str} : fIsA "str" (.str z) = some (.bl true) := by rfl
@[simp] theorem isA_str_int {i : Int} : fIsA "str" (.int i) = some (.bl false) := by rfl
@[simp] theorem isA_int_int {i : Int} : fIsA "int" (.int i) = some (.bl true) := by rfl
@[simp] theorem isA_bool_int {i : Int} : fIsA "bool" (.int i) = some (.bl false) := by rfl
end Eng
end
section
set_option Elab.async false
set_option linter.all false
set_option maxRecDepth 100000
set_option maxHeartbeats 4000000
namespace Eng
open PySem PySem.Spec PyProof.Rows L2 PySem.Calls
section
variable {X : Cx} {pins : List (Addr × Obj)} {σ : L2.St} {H : Hp} {s : Shared} {a : Addr}
end
section
variable {G : Gd} {Γ : Gm} {W : WX} {B : Bd} {F0 F H : Hp} {L : Sl} {A : List Addr} {σ : L2.St}
end
end Eng
end
section
set_option Elab.async false
set_option linter.all false
set_option maxRecDepth 100000
set_option maxHeartbeats 4000000
namespace Eng
open PySem PySem.Spec PyProof.Rows L2
section
variable {G : Gd} {Γ : Gm}
def PsE (H : Hp) : List (V × V) → List Str → List Addr → Prop
  | [], [], [] => True
  | (k, v) :: ps, z :: zs, a :: as => k = V.str z ∧ v = .ref a ∧ H a = some (.lst []) ∧ PsE H ps zs as
  | _, _, _ => False
theorem PsE.kvs {H : Hp} : ∀ {ps : List (V × V)} {zs : List Str} {as : List Addr}, PsE H ps zs as → ∃ kvs : List (Key × V), ps = kvs.map (fun kv => (kV kv.1, kv.2)) ∧ kvs.map (·.1) = zs.map (fun z => (.inr z : Key)) ∧ (∀ a ∈ as, H a = some (.lst [])) ∧ kvs = (zs.zip as).map fun p => (.inr p.1, .ref p.2)
  | [], [], [], _ => ⟨[], rfl, rfl, (fun a m => by cases m), rfl⟩
  | (k, v) :: ps, z :: zs, a :: as, ⟨e1, e2, e3, h⟩ => by
    obtain ⟨kvs, i1, i2, i3, i4⟩ := PsE.kvs h
    refine ⟨(.inr z, .ref a) :: kvs, by rw [e1, e2, i1]; rfl, by rw [List.map_cons, List.map_cons, i2], fun b m => ?_, by rw [List.zip_cons_cons, List.map_cons, i4]⟩
    rcases List.mem_cons.mp m with rfl | m
    · exact e3
    · exact i3 b m
  | [], [], _ :: _, h => h.elim
  | [], _ :: _, _, h => h.elim
  | _ :: _, [], _, h => h.elim
  | _ :: _, _ :: _, [], h => h.elim
theorem PsE.len {H : Hp} : ∀ {ps : List (V × V)} {zs : List Str} {as : List Addr}, PsE H ps zs as → zs.length = as.length
  | [], [], [], _ => rfl
  | (_, _) :: ps, _ :: zs, _ :: as, ⟨_, _, _, h⟩ => by rw [List.length_cons, List.length_cons, PsE.len h]
  | [], [], _ :: _, h => h.elim
  | [], _ :: _, _, h => h.elim
  | _ :: _, [], _, h => h.elim
  | _ :: _, _ :: _, [], h => h.elim
end
end Eng
end
section
set_option Elab.async false
set_option linter.all false
set_option maxRecDepth 100000
set_option maxHeartbeats 4000000
namespace Eng
open PySem PySem.Spec PyProof.Rows L2
section
variable {G : Gd} {Γ : Gm}
end
end Eng
end
section
set_option Elab.async false
set_option linter.all false
set_option maxRecDepth 100000
set_option maxHeartbeats 4000000
namespace Eng
open PySem PySem.Spec PyProof.Rows L2
section
variable {G : Gd} {Γ : Gm} {a b : Expr} {rest : List Expr} {pos : Pos} {na nb : Sl → R D}
end
end Eng
end
section
set_option Elab.async false
set_option linter.all false
set_option maxRecDepth 100000
set_option maxHeartbeats 4000000
namespace Eng
open PySem PySem.Spec PyProof.Rows L2
section
variable {G : Gd} {Γ : Gm} {W : WX} {B : Bd} {F0 F H : Hp} {L : Sl} {A : List Addr} {σ : L2.St}
abbrev Bd.and (B : Bd) (D : Addr) (u : HO) : Bd := ⟨upd B.h D u, B.p⟩
theorem Rl.put (R : Rl G B F0 L F A σ H) {D : Addr} {u o : HO} (eH : H D = some u) (mu : MutO u) (eF : F D = none) (eB : B.h D = none) (nA : D ∉ A) : Rl G B F0 L F A σ (upd H D o) :=
  ⟨R.os.mono (.refl _) fun a m => upd_ne fun e => nA (e ▸ m), R.nd, fun a w e => by rw [upd_ne (ne_of_none e eF)]; exact R.sf _ _ e, R.f0, R.sb.upd eB (mut_at eH mu), R.fb, R.fa, R.pn⟩
section
variable {elt tg iter : Expr} {scope : Scope} {own : List (Str × Nat)} {ws : List Nat} {p pos spos : Pos} {it : Sl → R (List D)} {gm : D → Sl → Option Sl} {el : Sl → RX} {i : Nat} {y : Str}
end
end
end Eng
end
section
set_option Elab.async false
set_option linter.all false
set_option maxRecDepth 100000
set_option maxHeartbeats 4000000
namespace Eng
open PySem PySem.Spec PyProof.Rows L2
section
variable {M : Model} {A : Around} {E : Value → Shared → Prop} {s : Shared} {Z : Obj → Prop} {B : Heap} {env : Env} {outer : List Env} {L a C : Addr}
theorem note_held {Q : Unit → Shared → Prop} (hZ : HandSPX.Steady Z) (fr : A.frames = some (env :: outer)) (ef : env.frame = some L) (ne : C ≠ L) (x : HandSPX.HeldZ B (env :: outer) a Z C s.heap)
    (q : ∀ g, HandSPX.HeldZ B (env :: outer) a Z L g → s.heap.UpToSlots g → Q () { s with heap := g }) : wpAny M A (noteFrame (.ref a) env) Q E s := by
  obtain ⟨st, an, ff, oe, vs, T, oT, ts, ha, hz, dv, v1, nT, Ta, hT, dT, t3⟩ := x
  have lt3 : 3 < ts.size := (Array.getElem?_eq_some_iff.mp t3).1
  unfold noteFrame
  simp only [ef]
  refine wpAny_bind (wpAny_field ha dv v1 ?_)
  have c1 : (Value.ref T != Value.none) = true := by simp
  have c2 : ¬ ((rawInt C == rawInt L) = true) := by
    intro z
    have q := eq_of_beq z
    simp [rawInt] at q
    exact ne (Int.ofNat.inj q)
  rw [if_pos c1]
  refine wpAny_bind (wpAny_field hT dT t3 ?_)
  rw [if_neg c2]
  refine wpAny_bind (wpAny_setField hT dT lt3 ?_)
  generalize hg : s.heap.update T (Obj.mapFields (·.setIfInBounds 3 Value.none)) = g1
  have o1 : ∀ b, b ≠ T → g1.get? b = s.heap.get? b := fun b n => by rw [← hg]; exact Heap.get?_update_other _ _ n.symm
  have nr : ∀ b o, s.heap.get? b = some o → (∀ ws, o.data ≠ .fields ws) → b ≠ T := fun b o e n z => by
    rw [z, hT] at e; cases e; exact n ts dT
  have h := HandSPX.wpAny_entryZ (M := M) (A := A) (E := E) (s := { s with heap := g1 }) (head := .ref T) (hadNext := (Value.ref T != Value.none)) (Q := Q) hZ fr (ff.of_keeps fun b o e n => ⟨o, (o1 b (nr b o e n)).trans e, rfl⟩) ef ((o1 a Ta.symm).trans ha) (fun b o e => by
    have n : b ≠ T := fun z => by rw [z, nT] at e; cases e
    rw [o1 b n]; exact st b o e) an dv (Array.getElem?_eq_some_iff.mp v1).1 hz fun g N => by
      obtain ⟨n1, n2, n3, n4⟩ := N
      exact q g ⟨n1, an, n2, n3⟩ fun b o e n => n4 b o ((o1 b (nr b o e n)).trans e) n
  exact h
theorem sky_note {Q : Unit → Shared → Prop} (hZ : HandSPX.Steady Z) (fr : A.frames = some (env :: outer)) (ef : env.frame = some L) (x : Sky B (env :: outer) a Z C s.heap)
    (q : ∀ g, HandSPX.HeldZ B (env :: outer) a Z L g → s.heap.UpToSlots g → Q () { s with heap := g }) : wpAny M A (noteFrame (.ref a) env) Q E s := by
  rcases x with ⟨st, an, ff, oe, vs, ha, hz, dv, v1⟩ | fl | hh
  · exact HandSPX.look_newZ hZ fr ff ef ha st an dv v1 hz q
  · exact HandSPX.looks_onZ hZ fr ef fl q
  · by_cases c : C = L
    · subst c; exact HandSPX.againZ ef hh.2.2.2 (q s.heap hh (Heap.UpToSlots.refl _))
    · exact note_held hZ fr ef c hh q
theorem note_env {x : Value} {ce : Env} (h : ce.frame = env.frame) : noteFrame x ce = noteFrame x env := by
  unfold noteFrame PySem.frameOf
  rw [h]
theorem frames_but {h g G : Heap} (k : ∀ b, b ≠ C → g.get? b = h.get? b) : ∀ {l : List Env}, h.FunFrames B l → (∀ b ∈ frs l, b ≠ C ∧ G.get? b = none) → g.FunFrames G l
  | [], _, _ => trivial
  | e :: l, ⟨h1, ⟨L, o, f, n, ho, d⟩, r⟩, m => by
    have q := m L (List.mem_filterMap.mpr ⟨e, List.mem_cons_self, f⟩)
    refine ⟨h1, ⟨L, o, f, q.2, (k L q.1).trans ho, d⟩, frames_but k r fun b hb => m b ?_⟩
    obtain ⟨e', me, q'⟩ := List.mem_filterMap.mp hb
    exact List.mem_filterMap.mpr ⟨e', List.mem_cons_of_mem _ me, q'⟩
theorem held_but {h g : Heap} {l : List Env} (x : HandSPX.HeldZ B l a Z L h) {o : Obj} (eC : B.get? C = some o) (k : ∀ b, b ≠ C → g.get? b = h.get? b) (nC : C ∉ frs l) : HandSPX.HeldZ (PySem.W.hideAll B [C]) l a Z L g := by
  obtain ⟨st, an, ff, oe, vs, T, oT, ts, ha, hz, dv, v1, nT, Ta, hT, dT, t3⟩ := x
  have hid : ∀ b, B.get? b = none → (PySem.W.hideAll B [C]).get? b = none := fun b n => by
    cases e : (PySem.W.hideAll B [C]).get? b with
    | none => rfl
    | some u => rw [PySem.W.of_hideAll _ e] at n; cases n
  have out : ∀ b, B.get? b = none → b ≠ C := fun b n z => by rw [z, eC] at n; cases n
  refine ⟨fun b u e => ?_, hid a an, frames_but k ff fun b hb => ⟨fun z => nC (z ▸ hb), hid b (ff.mem hb).1⟩, oe, vs, T, oT, ts, (k a (out a an)).trans ha, hz, dv, v1, hid T nT, Ta, (k T (out T nT)).trans hT, dT, t3⟩
  have n : b ≠ C := fun z => by rw [z, PySem.W.hideAll_none [C] List.mem_cons_self] at e; cases e
  rw [k b n]
  exact st b u (PySem.W.of_hideAll _ e)
end
section
variable {X : Cx} {pins : List (Addr × Obj)} {σ : L2.St} {H3 : Hp} {s3 : Shared} {scope : Scope} {ce : Env} {fp : List Addr}
theorem comp_fails {W : WX} {E : Value → Shared → Prop} {use : Option (Value → Sem Unit)} {Qf : Value → Shared → Prop} {acc : Value} (I3 : Inv X pins σ H3 s3) (hs : X.stack = X.env :: X.outer) (hf : X.env.frame = some X.env.locals) (tk : Takes X W)
    (cL : ce.locals = s3.heap.objs.size) (cf : ce.frame = X.env.frame) (f3 : ∀ b ∈ fp, FpOk X pins H3 b) {u : Value} {s' : Shared} (x : XE ((X.blk s3 H3 scope ce fp).wish E) (fun cls d _ H' => W cls d σ H') u s') :
    notedBy (model X.prog X.w) X.A ce (fun e s'' => compEnds (model X.prog X.w) X.A X.xe use Qf acc ce (.error e) s'') u s' := by
  obtain ⟨a, B, sI, pins', σ', H', cls, d, rfl, I', nb, up, sky, na, os, ag, w⟩ := x
  have I6 : Inv (X.blk s3 H3 scope ce fp) pins' σ' H' sI := I'.unwish
  have I7 : Inv X pins σ H' sI := I3.call' (ch := fp) I6.os I6.base I6.hok I6.bare fun b hb => ⟨(f3 b hb).2.2.2.1, (f3 b hb).2.1, (f3 b hb).2.2.2.2.1, (f3 b hb).2.2.2.2.2⟩
  have fr : X.A.frames = some (X.env :: X.outer) := by rw [I3.ok.frames, hs]
  have sky' : Sky B (X.env :: X.outer) a (Zc cls d) ce.locals s'.heap := by rw [← hs]; exact sky
  unfold notedBy
  rw [note_env cf]
  refine sky_note Zc.steady fr hf sky' fun g1 held up1 => ?_
  generalize hC : ce.locals = C at *
  have nC : C ∉ frs X.stack := fun m => by
    obtain ⟨_, o, e, _⟩ := I3.stack.mem m
    have := Heap.lt_size e
    rw [cL] at this
    exact absurd this (Nat.lt_irrefl _)
  obtain ⟨m, ⟨oC, es, ep, gC, rC⟩, _⟩ := I6.loc
  have gC : sI.heap.get? C = some oC := by rw [← hC]; exact gC
  have bC : B.get? C = some oC := nb C oC gC nC
  have freeC : H' C = none := by
    have : H' ce.locals = none := I6.free
    rw [hC] at this; exact this
  have fpC : FpOk X pins H' C := by rw [cL] at freeC ⊢; exact I3.fpOk (Nat.le_refl _) freeC
  show CompFails _ _ _ _ _ _
  refine ⟨m, ⟨oC, es, ep, by rw [hC]; exact held.1 C oC bC, rC⟩, fun g2 m' _ sb => ?_⟩
  have k2 : ∀ b, b ≠ C → g2.get? b = g1.get? b := fun b n => sb.2 b (by rw [hC]; exact n)
  have held2 := held_but held bC k2 (by rw [← hs]; exact nC)
  obtain ⟨_, _, _, oe, vs, T, oT, ts, ha, _, dv, v1, _, _, _, _, _⟩ := id held2
  unfold PySem.passOn
  refine wpAny_bind (wpAny_field ha dv v1 ?_)
  rw [if_neg (show ¬ ((Value.ref T == Value.none) = true) from by simp)]
  have fin : wpAny (model X.prog X.w) X.A (setFlight (.ref a) ce.frame) (fun _ s4 => wpAny (model X.prog X.w) X.A (throw (.ref a) : Sem Value) (fun _ _ => False) X.xe s4) X.xe { s' with heap := g2 } := by
    rw [cf, hf]
    refine HandSPX.setFlight_onZ held2 fun g4 held4 up4 => wpAny_throw (tk _ _ ?_)
    obtain ⟨f0, f1, f2, f3', f4, f5⟩ := fpC
    have keepI : ∀ b o, b ≠ C → sI.heap.get? b = some o → (PySem.W.hideAll sI.heap [C]).get? b = some o := fun b o n e => PySem.W.hideAll_get _ e (by simpa using n)
    have hidI : ∀ b o, (PySem.W.hideAll sI.heap [C]).get? b = some o → b ≠ C ∧ sI.heap.get? b = some o := fun b o e => ⟨fun z => (by rw [z, PySem.W.hideAll_none [C] List.mem_cons_self] at e; cases e), PySem.W.of_hideAll _ e⟩
    refine ⟨a, PySem.W.hideAll B [C], { sI with heap := PySem.W.hideAll sI.heap [C] }, pins, σ, H', cls, d, rfl, I7.turned (t' := sI.toks) keepI f0 f1 f3' f4 f5, fun b o e n => ?_, fun b o e n => ?_, .inr (.inr (by rw [hs]; exact held4)), na, os, ag, w⟩
    · obtain ⟨n1, e1⟩ := hidI b o e
      exact PySem.W.hideAll_get _ (nb b o e1 n) (by simpa using n1)
    · obtain ⟨n1, e1⟩ := hidI b o e
      obtain ⟨sl1, e2⟩ := up b o e1 n
      obtain ⟨sl2, e3⟩ := up1 b _ e2 n
      obtain ⟨sl3, e4⟩ := up4 b _ ((k2 b n1).trans e3) n
      exact ⟨sl3, e4⟩
  first
    | exact wpAny_bind (wpAny_pure (wpAny_bind fin))
    | exact wpAny_bind fin
end
end Eng
end
section
set_option Elab.async false
set_option linter.all false
set_option maxRecDepth 100000
set_option maxHeartbeats 4000000
namespace Eng
open PySem PySem.Spec PyProof.Rows L2
section
variable {X : Cx}
def tLcE (W : WX) (wi : TI) (g : TG) (te : WX → TE) (vs : List Nat) : TE := fun σ H Q => wi σ H fun J H1 => ∀ N, H1 N = none → ∃ V : Nat → Nat → Hp → Prop, (∃ m, V 0 m (upd H1 N (.lst []))) ∧ ∀ i m G, V i m G →
  (J.stop i G ∧ Q (.ref N) G) ∨ (J.go i G ∧ ∃ Nx : Hp → Prop, (∀ G', Nx G' → ∃ m', m' < m ∧ V (i + 1) m' G') ∧ ∀ x G', J.yld i G x G' →
    g x (L2.wipe σ vs) G' fun σ2 G2 => L2.wipe σ2 vs = L2.wipe σ vs ∧ te (fun c d _ G3 => W c d σ G3) σ2 G2 fun y G4 => ∃ acc, G4 N = some (.lst acc) ∧ acc.length < sizeLine ∧ Nx (upd G4 N (.lst (acc ++ [y]))))
theorem lcE_core {pins : List (Addr × Obj)} {s : Shared} {σ : L2.St} {H : Hp} {Q : VK} {elt tg iter : Expr} {scope : Scope} {own : List (Str × Nat)} {pos pos' : Pos} {wi : TI} {g : TG} {te : WX → TE} {use : Option (Value → Sem Unit)} {Qf : Value → Shared → Prop} {W : WX}
    (hc : X.calm = true) (hN : X.N.Nodup) (stk : X.stack = X.env :: X.outer) (frm : X.env.frame = some X.env.locals) (tk : Takes X W) (I : Inv X pins σ H s) (hi : PI X tg iter wi) (ok : BlkOk X.N X.env.scope scope own)
    (hg : ∀ (s : Shared) (H : Hp) (C : Addr) (cl : List (Str × Addr)) (fp : List Addr), PG (X.blk s H scope (compEnvC scope cl C X.env) fp) tg g)
    (he : ∀ (s : Shared) (H : Hp) (C : Addr) (cl : List (Str × Addr)) (fp : List Addr) (E : Value → Shared → Prop) (W' : WX), PassesOwn (model X.prog X.w) X.A (compEnvC scope cl C X.env) E → Takes ((X.blk s H scope (compEnvC scope cl C X.env) fp).wish E) W' → PE ((X.blk s H scope (compEnvC scope cl C X.env) fp).wish E) elt (te W'))
    (hset : ∀ x, foldedSetIterable iter X.env x = pure x) (h : tLcE W wi g te (own.map (·.2)) σ H Q)
    (fine : ∀ N ce s' m H', Inv X pins σ H' s' → Q (.ref N) H' → s'.heap.Ns ce.locals m → FpOk X pins H' ce.locals → compEnds (model X.prog X.w) X.A X.xe use Qf (.ref N) ce (.ok .next) s') :
    wpAny (model X.prog X.w) X.A (comprehension (.ListComp elt [⟨tg, iter, [], 0⟩] scope pos) scope X.env pos' (newList []) false (eval iter X.env) use) Qf X.xe s := by
  have caps : ∀ y ∈ scope.names, y.2 = .free → ∃ c, X.env.cells.lookup y.1 = some c := fun y hy e => I.ok.has _ ((ok.free y hy e).imp id id)
  refine comprehension_at (use := use) rfl hset (closure_ok caps) ok.kind (fun y hy e => by rw [ok.uniq y hy, e]) (thn (hi.run pins s σ H _ I h) fun _ s1 hx => thn hx fun _ s2 h2 => ?_)
  obtain ⟨it, fp, tn, J, H2, rfl, I2, T, st2, f2, q⟩ := h2
  refine wpAny_newObj_type (newEnv_comp ?_) (Nat.zero_le _)
  obtain ⟨N, hN'⟩ : ∃ N, N = s2.heap.objs.size := ⟨_, rfl⟩
  have nN : H2 N = none := I2.hok.fresh (Nat.le_of_eq hN'.symm)
  obtain ⟨V, ⟨m0, v0⟩, turn⟩ := q N nN
  obtain ⟨s3, es3⟩ : ∃ s3 : Shared, s3 = { s2 with heap := s2.heap.push { cls := .type "list", data := .seq ([] : List Value).toArray } } := ⟨_, rfl⟩
  have hp3 : s3.heap = s2.heap.push { cls := .type "list", data := .seq ([] : List Value).toArray } := by rw [es3]
  have I3 : Inv X pins σ (upd H2 N (.lst [])) s3 := by
    rw [es3]
    exact I2.laid (t' := s2.toks) (fun b o e => Heap.get?_push_of_some _ e) (Nat.le_of_eq hN'.symm) ⟨Nat.zero_le _, [], 0, .nil, by rw [hN']; exact Heap.get?_push_size _ rfl⟩
  have old : ∀ b ∈ fp, b < s2.heap.objs.size := fun b hb => by
    obtain ⟨o, e, _⟩ := T.obj _ _ st2 b hb
    exact Heap.lt_size e
  have f3 : ∀ b ∈ fp, FpOk X pins (upd H2 N (.lst [])) b ∧ b < s3.heap.objs.size := fun b hb => by
    have l := old b hb
    have n : b ≠ N := by rw [hN']; exact Nat.ne_of_lt l
    exact ⟨⟨by rw [upd_ne n]; exact (f2 b hb).1, (f2 b hb).2⟩, by rw [hp3, Heap.size_push]; exact Nat.lt_succ_of_lt l⟩
  have I4 := block_start I3 ok hN f3
  have pg := hg s3 (upd H2 N (.lst [])) s3.heap.objs.size (cellsFrom (s3.heap.objs.size + 1) scope.names (cloFrom X.env.cells scope.names [])) fp
  have pe := he s3 (upd H2 N (.lst [])) s3.heap.objs.size (cellsFrom (s3.heap.objs.size + 1) scope.names (cloFrom X.env.cells scope.names [])) fp
  rw [← hN', ← es3]
  show codeAny _ _ (.compStart (.ListComp elt [⟨tg, iter, [], 0⟩] scope pos) 0 (.ref it) (.ref N) (compEnvC scope (cellsFrom (s3.heap.objs.size + 1) scope.names (cloFrom X.env.cells scope.names [])) s3.heap.objs.size X.env)) (compEnds (model X.prog X.w) X.A X.xe use Qf (.ref N) (compEnvC scope (cellsFrom (s3.heap.objs.size + 1) scope.names (cloFrom X.env.cells scope.names [])) s3.heap.objs.size X.env)) { s3 with heap := pushCells (s3.heap.push { cls := .type "dict", data := .dict #[] }) scope.names }
  obtain ⟨ce, ece⟩ : ∃ ce, ce = compEnvC scope (cellsFrom (s3.heap.objs.size + 1) scope.names (cloFrom X.env.cells scope.names [])) s3.heap.objs.size X.env := ⟨_, rfl⟩
  rw [← ece] at I4 pg pe ⊢
  have cL : ce.locals = s3.heap.objs.size := by rw [ece]; rfl
  have cf : ce.frame = X.env.frame := by rw [ece]; rfl
  obtain ⟨H3, eH3⟩ : ∃ H3, H3 = upd H2 N (.lst []) := ⟨_, rfl⟩
  rw [← eH3] at I3 I4 pg pe v0 f3
  have lands := fun (E : Value → Shared → Prop) (u : Value) (s' : Shared) => comp_fails (E := E) (W := W) (use := use) (Qf := Qf) (acc := .ref N) (scope := scope) (fp := fp) (u := u) (s' := s') I3 stk frm tk cL cf (fun b hb => (f3 b hb).1)
  have pe' := pe (notedBy (model X.prog X.w) X.A ce fun e s'' => compEnds (model X.prog X.w) X.A X.xe use Qf (.ref N) ce (.error e) s'') (fun c d _ G3 => W c d σ G3) PassesOwn.looking (fun u s' x => lands _ u s' x)
  obtain ⟨s4, es4⟩ : ∃ s4 : Shared, s4 = { s3 with heap := pushCells (s3.heap.push { cls := .type "dict", data := .dict #[] }) scope.names } := ⟨_, rfl⟩
  rw [← es4] at I4 ⊢
  have st4 : tn 0 s4.heap := T.keep _ _ _ st2 fun b _ o e => by
    rw [es4]
    refine pushCells_keeps _ _ _ _ (Heap.get?_push_of_some _ ?_)
    rw [hp3]; exact Heap.get?_push_of_some _ e
  have its : ∀ {σ' : L2.St} {G' : Hp} {s' : Shared}, Inv (X.blk s3 H3 scope ce fp) [] σ' G' s' → (∀ b ∈ fp, G' b = none) → ∀ b ∈ fp, FpOk (X.blk s3 H3 scope ce fp) [] G' b := fun {σ' G' s'} J' n b hb =>
    ⟨n b hb, (J'.ok.exf b hb).1, J'.ok.exfs b hb, .inl hb, fun x c e => (J'.ok.exf b hb).2 x c e, fun p hp => absurd (show p ∈ ([] : List (Addr × Obj)) ++ [] from hp) (by simp)⟩
  have loop : codeAny (model X.prog X.w) X.A (.compLoop (.ListComp elt [⟨tg, iter, [], 0⟩] scope pos) 0 (.ref it) (.ref N) ce) (compEnds (model X.prog X.w) X.A X.xe use Qf (.ref N) ce) s4 := by
    refine compLoop_any (fun n s' => ∃ i G, Inv (X.blk s3 H3 scope ce fp) [] (L2.wipe σ (own.map (·.2))) G s' ∧ tn i s'.heap ∧ (∀ b ∈ fp, G b = none) ∧ V i n G) (fun n s5 hI => ?_) m0 ⟨0, H3, I4, st4, fun b hb => (f3 b hb).1.1, v0⟩
    obtain ⟨i, G, I5, st5, n5, v5⟩ := hI
    have fps := its I5 n5
    rcases turn i n G v5 with ⟨stop, last⟩ | ⟨go, Nx, hNx, step⟩
    · refine thnF (T.done (X.blk s3 H3 scope ce fp) rfl rfl rfl hc i [] s5 _ G (fun _ _ => False) I5 fps st5 stop) fun r s6 hr => ?_
      obtain ⟨rfl, I6⟩ := hr
      have I7 : Inv X pins σ G s6 := I3.call' (ch := fp) I6.os I6.base I6.hok I6.bare fun b hb => ⟨(f3 b hb).1.2.2.2.1, (f3 b hb).1.2.1, (f3 b hb).1.2.2.2.2.1, (f3 b hb).1.2.2.2.2.2⟩
      obtain ⟨m, hn, _⟩ := I6.loc
      have freeC : G ce.locals = none := I6.free
      exact fine N ce s6 m G I7 last hn (by rw [cL] at freeC ⊢; exact I3.fpOk (Nat.le_refl _) freeC)
    · refine thnF (T.item (X.blk s3 H3 scope ce fp) rfl rfl rfl hc i [] s5 _ G (fun _ _ => False) I5 fps st5 go) fun r s6 hr => ?_
      obtain ⟨u, rfl, h6⟩ := hr
      refine thnF h6 fun _ s7 h7 => ?_
      obtain ⟨x, G7, I7, r7, y7, st7, n7⟩ := h7
      have J7 := I7.pinned (its I7 n7) (T.obj _ _ st7)
      refine thnF (pg.run _ s7 _ G7 x u _ J7 r7 (step x G7 y7)) fun _ s8 h8 => ?_
      obtain ⟨σ8, G8, I8, w8, q8⟩ := h8
      refine thnF ((pts_nil (X := X.blk s3 H3 scope ce fp)).run _ s8 σ8 G8 (fun b G' => b = true ∧ G' = G8) I8 ⟨rfl, rfl⟩) fun b s9 h9 => ?_
      obtain ⟨G9, I9, rfl, rfl⟩ := h9
      rw [if_pos rfl]
      refine wpAny_mono (pe'.run _ s9 σ8 _ _ (I9.wish _) q8) (fun z s10 h10 => ?_) fun _ _ e => e
      obtain ⟨yv, G10, J10, r10, acc, gN, lz, nx⟩ := h10
      refine thnF (app_ok (X := X.blk s3 H3 scope ce fp) J10.unwish gN lz r10 fun s11 I11 => ?_) fun _ _ z => z
      obtain ⟨m', lt, v'⟩ := hNx _ nx
      have kept : ∀ b ∈ fp, ∀ o, s7.heap.get? b = some o → s11.heap.get? b = some o ∧ (upd G10 N (.lst (acc ++ [yv]))) b = none := fun b hb o e =>
        let z := I11.pin (b, o) (List.mem_append_right _ (List.mem_append_right _ (mem_pinsAt hb e)))
        ⟨z.1, z.2.1⟩
      refine ⟨m', lt, i + 1, _, (I11.unpinned (pins := [])).weak (by rw [← w8, wipe_length]) (fun j v e => ?_), T.keep _ _ _ st7 fun b hb o e => (kept b hb o e).1, fun b hb => ?_, v'⟩
      · rw [← w8] at e
        exact (wipe_some e).1
      · obtain ⟨o, e, _⟩ := T.obj _ _ st7 b hb
        exact (kept b hb o e).2
  exact codeAny_compStart_list loop (T.self X.A 0 _ _ _ st4 loop)
end
end Eng
end
section
set_option Elab.async false
set_option linter.all false
set_option maxRecDepth 100000
set_option maxHeartbeats 4000000
namespace Eng
open PySem PySem.Spec PyProof.Rows L2
section
variable {X : Cx} {W : WX} {elt tg iter : Expr} {scope : Scope} {own : List (Str × Nat)} {pos : Pos} {wi : TI} {g : TG} {te : WX → TE}
theorem pe_lcE (hc : X.calm = true) (hN : X.N.Nodup) (stk : X.stack = X.env :: X.outer) (frm : X.env.frame = some X.env.locals) (tk : Takes X W) (hi : PI X tg iter wi) (ok : BlkOk X.N X.env.scope scope own)
    (hg : ∀ (s : Shared) (H : Hp) (C : Addr) (cl : List (Str × Addr)) (fp : List Addr), PG (X.blk s H scope (compEnvC scope cl C X.env) fp) tg g)
    (he : ∀ (s : Shared) (H : Hp) (C : Addr) (cl : List (Str × Addr)) (fp : List Addr) (E : Value → Shared → Prop) (W' : WX), PassesOwn (model X.prog X.w) X.A (compEnvC scope cl C X.env) E → Takes ((X.blk s H scope (compEnvC scope cl C X.env) fp).wish E) W' → PE ((X.blk s H scope (compEnvC scope cl C X.env) fp).wish E) elt (te W'))
    (hset : ∀ x, foldedSetIterable iter X.env x = pure x) : PE X (.ListComp elt [⟨tg, iter, [], 0⟩] scope pos) (tLcE W wi g te (own.map (·.2))) := by
  refine ⟨fun pins s σ H Q I h => ?_⟩
  rw [eval_ListComp]
  refine lcE_core hc hN stk frm tk I hi ok hg he hset h fun N ce s' m H' I' q hn f => ⟨m, hn, fun g1 sb => ?_⟩
  exact ⟨.ref N, H', I'.turned (t' := s'.toks) (fun b o hb e => (sb.2 b hb).trans e) f.1 f.2.1 f.2.2.2.1 f.2.2.2.2.1 f.2.2.2.2.2, rfl, q⟩
end
section
variable {G : Gd} {Γ : Gm} {W : WX} {B : Bd} {F0 F H : Hp} {L : Sl} {A : List Addr} {σ : L2.St}
def mLcE (it : Sl → R (List D)) (vs : List Nat) (tg : D → Sl → Option Sl) (el : Sl → R D) : Sl → R O := fun L => (it L).bind fun ds =>
  if ds.length ≤ sizeLine ∧ okW L vs = true then (match lcGo tg mYes el (wipeL L vs) ds with | .ok es => .ok (.ml (es.map .v)) | .exc c => .exc c | .stuck => .stuck) else .stuck
theorem lcGo_step {tg : D → Sl → Option Sl} {el : Sl → R D} {L : Sl} {x : D} {xs done : List D} {r : R (List D)} (h : (lcGo tg mYes el L (x :: xs)).bind (fun rest => Eng.R.ok (done ++ rest)) = r) (ns : r ≠ .stuck) :
    ∃ L', tg x L = some L' ∧ ((∃ y, el L' = .ok y ∧ (lcGo tg mYes el L xs).bind (fun rest => Eng.R.ok ((done ++ [y]) ++ rest)) = r) ∨ ∃ c, el L' = .exc c ∧ r = .exc c) := by
  unfold lcGo at h
  cases e1 : tg x L with
  | none => rw [e1] at h; exact absurd h.symm ns
  | some L' =>
    rw [e1] at h
    refine ⟨L', rfl, ?_⟩
    cases e2 : el L' with
    | stuck =>
      have : r = .stuck := by rw [← h]; show ((el L').bind _).bind _ = _; rw [e2]; rfl
      exact absurd this ns
    | exc c =>
      have : r = .exc c := by rw [← h]; show ((el L').bind _).bind _ = _; rw [e2]; rfl
      exact .inr ⟨c, rfl, this⟩
    | ok y =>
      refine .inl ⟨y, rfl, ?_⟩
      rw [← h]
      show _ = ((el L').bind _).bind _
      rw [e2]
      cases lcGo tg mYes el L xs with
      | ok a => show R.ok _ = R.ok _; simp
      | exc c => rfl
      | stuck => rfl
theorem lc_readE {Q : VK} {it : Sl → R (List D)} {vs ws : List Nat} {tg : D → Sl → Option Sl} {el : Sl → R D} (hsub : ∀ i ∈ ws, i ∈ vs) (h : tO G W (mLcE it vs tg el) σ H Q) :
    tLcE W (tI G W it) (gD G ws tg) (fun W' => tE G W' el) vs σ H Q := by
  obtain ⟨B, F0, L, F, A, R, h⟩ := h
  refine ⟨B, F0, L, F, A, R, (pG.bind h).imp R fun ds F1 H1 s1 R1 g1 h1 J iJ N hN => ?_⟩
  by_cases hsz : ds.length ≤ sizeLine ∧ okW L vs = true
  case neg => rw [if_neg hsz] at h1; exact h1.elim
  rw [if_pos hsz] at h1
  obtain ⟨r, hr⟩ : ∃ r, r = lcGo tg mYes el (wipeL L vs) ds := ⟨_, rfl⟩
  rw [← hr] at h1
  have ns : r ≠ .stuck := fun z => by rw [z] at h1; exact h1.elim
  refine ⟨fun i m Hc => m = ds.length - i ∧ i ≤ ds.length ∧ ∃ Fi acc done, Grow G F1 H1 Fi Hc ∧ Fi N = none ∧ Hc N = some (.lst acc) ∧ RpA G.K G.mg Fi acc done ∧ done.length ≤ i ∧ (lcGo tg mYes el (wipeL L vs) (ds.drop i)).bind (fun rest => Eng.R.ok (done ++ rest)) = r,
    ⟨ds.length, rfl, Nat.zero_le _, F1, [], [], ⟨Kp.new hN, .refl _, fun a u e => by rw [upd_ne (ne_of_none (R1.sf _ _ e) hN)]; exact R1.sf _ _ e, fun _ e _ => e⟩, R1.sf.free hN, upd_same, .nil, Nat.le_refl _, ?_⟩, fun i m Hc hW => ?_⟩
  · rw [hr]
    show (lcGo tg mYes el (wipeL L vs) ds).bind _ = _
    cases lcGo tg mYes el (wipeL L vs) ds <;> rfl
  obtain ⟨rfl, hi, Fi, acc, done, g, fN, eN, rac, hdl, hgo⟩ := hW
  by_cases hlt : i < ds.length
  · refine .inr ⟨iJ.go i Fi Hc g.sF g.le hlt, fun H' => i + 1 ≤ ds.length ∧ ∃ Fi acc done, Grow G F1 H1 Fi H' ∧ Fi N = none ∧ H' N = some (.lst acc) ∧ RpA G.K G.mg Fi acc done ∧ done.length ≤ i + 1 ∧ (lcGo tg mYes el (wipeL L vs) (ds.drop (i + 1))).bind (fun rest => Eng.R.ok (done ++ rest)) = r, fun H' hn => ⟨ds.length - (i + 1), by omega, rfl, hn⟩, fun x H' hy => ?_⟩
    obtain ⟨d, F2, ed, g2, rx⟩ := iJ.yl i Fi Hc x H' g.sF g.le hlt hy
    have gt := g.trans g2
    have f2 : F2 N = none := g2.hf N fN (nt_of eN fun _ z => nomatch z)
    have e2 : H' N = some (.lst acc) := g2.sH.at' _ _ eN
    obtain ⟨A', hA', Rw⟩ := (R1.gr gt).wipe vs hsz.2
    rw [List.drop_eq_getElem_cons hlt] at hgo
    have ed' : ds[i] = d := by rw [List.getElem?_eq_getElem hlt] at ed; exact Option.some.inj ed
    rw [ed'] at hgo
    obtain ⟨L', et, hel⟩ := lcGo_step hgo ns
    refine ⟨B, F0, _, F2, A', d, Rw, rx, L', et, fun σ' A2 out s2 R2 => ⟨by rw [wipe_out out hsub, wipe_wipe], B, F0, L', F2, A2, R2, ?_⟩⟩
    rcases hel with ⟨y, ey, hgo'⟩ | ⟨c, ec, rfl⟩
    · rw [ey]
      intro F4 H4 g4 v rv
      have f4 : F4 N = none := g4.hf N f2 (nt_of e2 fun _ z => nomatch z)
      have e4 : H4 N = some (.lst acc) := g4.sH.at' _ _ e2
      refine ⟨acc, e4, by rw [rac.length]; omega, hlt, F4, acc ++ [v], done ++ [y], ⟨(gt.sH.trans g4.sH).upd hN (mut_at e4 trivial), gt.sF.trans g4.sF, fun a u e => by rw [upd_ne (ne_of_none e f4)]; exact g4.le _ _ e, fun a z n => (gt.trans g4).hf a z n⟩, f4, upd_same, (RpA.mono (g2.sF.trans g4.sF) rac).append (.cons rv .nil), ?_, hgo'⟩
      rw [List.length_append]; show done.length + 1 ≤ i + 1; omega
    · rw [ec]
      obtain ⟨C, eC, h1⟩ := h1
      exact ⟨C, eC, fun F' H'' g' => h1 F' H'' (gt.trans g')⟩
  · have hn : ds.length ≤ i := by omega
    refine .inl ⟨iJ.st i Fi Hc g.sF g.le hn, ?_⟩
    rw [List.drop_eq_nil_of_le hn] at hgo
    have hgo : Eng.R.ok (done ++ []) = r := hgo
    rw [List.append_nil] at hgo
    rw [← hgo] at h1
    exact h1 Fi Hc g (.ref N) [N] (.ml eN rac.ow) (by simp) fun a m => by rw [List.mem_singleton.mp m]; exact ⟨fN, g1.sH.free hN⟩
theorem Gm.Ok.blkW {X : Cx} (ok : Γ.Ok G X) {scope : Scope} (hk : scope.kind = .function) (s : Shared) (H : Hp) (C : Addr) (cl : List (Str × Addr)) (fp : List Addr) (E : Value → Shared → Prop) (hp : PassesOwn (model X.prog X.w) X.A (compEnvC scope cl C X.env) E) : (Γ.blk scope).Ok G ((X.blk s H scope (compEnvC scope cl C X.env) fp).wish E) :=
  let o := ok.blk hk s H C cl fp
  ⟨o.prog, o.w, o.K, o.mg, o.base, o.N, o.nd, o.sc, o.kind, o.calm, o.room, o.un, hp, o.fnl, o.stk, o.lm⟩
section
variable {elt tg iter : Expr} {scope : Scope} {own : List (Str × Nat)} {ws : List Nat} {pos : Pos} {it : Sl → R (List D)} {gm : D → Sl → Option Sl} {el : Sl → R D}
theorem co_lcE (hi : CI G Γ tg iter it) (hb : blkC Γ.N Γ.sc scope own = true) (hsub : ∀ i ∈ ws, i ∈ own.map (·.2)) (hg : CG G (Γ.blk scope) tg ws gm) (he : CE G (Γ.blk scope) elt el) (hs : (noSet iter && Γ.cm && Γ.tp) = true) :
    CO G Γ (.ListComp elt [⟨tg, iter, [], 0⟩] scope pos) (mLcE it (own.map (·.2)) gm el) := by
  obtain ⟨hs, htp⟩ := and2 hs
  obtain ⟨hn, hcm⟩ := and2 hs
  exact fun X ok W tk => PE.imp (pe_lcE (ok.calm hcm) (by rw [ok.N]; exact ok.nd) (ok.stk htp).1 (ok.stk htp).2 tk (hi X ok W tk) (by rw [ok.N, ok.sc]; exact blkOk_by hb) (fun s H C cl fp => hg _ (ok.blk (blkOk_by hb).kind s H C cl fp))
    (fun s H C cl fp E W' hp htk => he _ (ok.blkW (blkOk_by hb).kind s H C cl fp E hp) W' htk) (noSet_of hn _)) fun σ H Q h => lc_readE hsub h
end
end
end Eng
end
section
set_option Elab.async false
set_option linter.all false
set_option maxRecDepth 100000
set_option maxHeartbeats 4000000
namespace Eng
open PySem PySem.Spec PyProof.Rows L2
section
variable {G : Gd} {Γ : Gm}
def fListS : List D → Option O
  | [.str z] => if z.length ≤ 16777216 then some (.ml ((signs z).map .v)) else none
  | _ => none
theorem b_listS : BltO G fListS (.type "list") := by
  intro X Γ ok cl pins s σ H xs us Q I r h
  obtain ⟨F, ds, d, sf, hr, e, h⟩ := h
  unfold fListS at e
  split at e
  · rename_i z
    split at e
    · rename_i hz
      cases e
      cases hr with
      | cons r1 r2 => cases r2; cases r1 with
        | str =>
          obtain ⟨u, rfl, ru⟩ := vals1 r
          obtain ⟨t, rfl⟩ := ru
          · have hl : z.cps.toList.length = z.length := by simp [Str.length]
            refine call_list_str (I.ok.hd cl) z t (fun h' tk acc c' hk hD hacc => ?_) (by rw [sizeLine_eq]; exact hz)
            obtain ⟨ha, hv⟩ := hacc
            have es : signs z = (z.cps.toList.map fun c => (⟨#[c]⟩ : Str)).map D.str := by unfold signs; rw [List.map_map]; rfl
            have vals : Vals ((z.cps.toList.map fun c => (⟨#[c]⟩ : Str)).map V.str) acc.toList := vals_of_at (by rw [List.length_map, List.length_map, hl, Array.length_toList, ha]; rfl) fun j x u e1 e2 => by
              obtain ⟨c, t', q1, rfl⟩ := hv j u (by rw [← Array.getElem?_toList]; exact e2)
              rw [List.getElem?_map, List.getElem?_map, Array.getElem?_toList, q1] at e1
              cases e1
              exact ⟨t', rfl⟩
            have rv : RpA G.K G.mg F ((z.cps.toList.map fun c => (⟨#[c]⟩ : Str)).map V.str) (signs z) := by rw [es]; exact strs_rp _
            exact ⟨.ref s.heap.objs.size, upd H s.heap.objs.size (.lst _), I.laid (t' := tk) hk (Nat.le_refl _)
              (show ObjOk X.prog X.w _ _ _ (.lst _) from ⟨by rw [List.length_map, List.length_map, hl, sizeLine_eq]; omega, acc.toList, c', vals, by rw [Array.toArray_toList]; exact hD⟩), rfl, new_ml sf rv (I.hok.fresh (Nat.le_refl _)) h⟩
    · cases e
  · cases e
end
end Eng
end
section
set_option Elab.async false
set_option linter.all false
set_option maxRecDepth 100000
set_option maxHeartbeats 4000000
namespace K11
open PySem PySem.Spec PyProof.Rows L2 Eng
def topS (i : Nat) : Stmt := PySem.Challenge.pw_pointpurse_k11_deed_texts_refused.main.body.getD i (.Pass ⟨0, 0, 0, 0⟩)
def mTab : List (Str × Str × Bool) := [(("BadDeed" : Str), ("ValueError" : Str), true), (("BadDeed" : Str), ("BadDeed" : Str), true), (("BadDeed" : Str), ("BadBook" : Str), false), (("BadDeed" : Str), ("BadHouse" : Str), false), (("BadDeed" : Str), ("BadText" : Str), false), (("BadDeed" : Str), ("NoDeed" : Str), false), (("BadDeed" : Str), ("NoRate" : Str), false), (("BadDeed" : Str), ("NotOver" : Str), false), (("BadDeed" : Str), ("TooFew" : Str), false), (("BadDeed" : Str), ("Twice" : Str), false), (("BadDeed" : Str), ("WrongDay" : Str), false), (("BadDeed" : Str), ("PurseError" : Str), true)]
/- NOT DONE BadText.__init__: stmt PurseError.__init__(self, 'a line at fault') -/
abbrev s_is_name : Stmt := topS 15
noncomputable def l_is_name_0 : Sl → R D := (m2 fIn (mVar 1) (mC (.str "abcdefghijklmnopqrstuvwxyz")))
noncomputable def m_is_name : Sl → RS := (sRet (vAnd (mCh fLe fLe (mC (.int 1)) (mF fLen (mCons (mVar 0) mNil)) (mC (.int 8))) (mF fAll (mCons (mFr (mLc (mIt (mVar 0)) [1] (put 1) mYes l_is_name_0)) mNil))))
noncomputable def e_is_name : FE := ⟨"is_name", 1, 1, runD 2 m_is_name 1⟩
noncomputable def g_is_name : Gm := { N := ["text", "sign"], sc := defScope s_is_name, T := [], X := ["len", "all"], C := [("LONGEST_houses", (.int 8)), ("LETTERS", (.str "abcdefghijklmnopqrstuvwxyz"))], k := 0, st := fun _ => true, E := [], I := [], Q := [] }
theorem v_is_name_0 : varB g_is_name 0 "text" = true := by decide +kernel
theorem c_is_name {G : Gd} (gr : g_is_name.Gr G) : CSs G g_is_name (defBody s_is_name) m_is_name := (css_one (cs_ret (ce_and (ce_chain o_le o_le rfl ce_int (ce_bn gr b_len boot_len (by decide +kernel) (ca_cons rfl (ce_v v_is_name_0) ca_nil)) (ce_gl gr (.head _) (by decide +kernel))) (ce_one (ce_bn gr b_all boot_all (by decide +kernel) (ca_cons rfl (ce_of_co (co_lc (own := [("sign", 1)]) (ci_val (ce_v v_is_name_0)) (by decide +kernel) (by decide) (cg_n (by decide +kernel)) cts_nil (ce_cmp o_in rfl (ce_v (by decide +kernel)) (ce_gl (gr.blk _) (.tail _ (.head _)) (by decide +kernel))) rfl)) ca_nil))))))
theorem sc_is_name : FnScope g_is_name.N ["text"] (defScope s_is_name) := ⟨rfl, rfl, rfl, by decide +kernel, rfl, by decide +kernel, by decide +kernel⟩
abbrev s_is_number : Stmt := topS 19
noncomputable def m_is_number : Sl → RS := (sRet (vAnd (m1 (fIsi "int") (mVar 0)) (vAnd (vNot (m1 (fIsi "bool") (mVar 0))) (m2 fGe (mVar 0) (mVar 1)))))
noncomputable def e_is_number : FE := ⟨"is_number", 1, 2, runD 2 m_is_number 2⟩
noncomputable def g_is_number : Gm := { N := ["thing", "least"], sc := defScope s_is_number, T := [], X := ["isinstance", "int", "bool"], C := [], k := 0, st := fun _ => true, E := [], I := [], Q := [] }
theorem v_is_number_0 : varB g_is_number 0 "thing" = true := by decide +kernel
theorem v_is_number_1 : varB g_is_number 1 "least" = true := by decide +kernel
theorem c_is_number {G : Gd} (gr : g_is_number.Gr G) : CSs G g_is_number (defBody s_is_number) m_is_number := (css_one (cs_ret (ce_and (ce_isn gr boot_int (by decide +kernel) (ce_v v_is_number_0)) (ce_and (ce_not (ce_isn gr boot_bool (by decide +kernel) (ce_v v_is_number_0))) (ce_one (ce_cmp o_ge rfl (ce_v v_is_number_0) (ce_v v_is_number_1)))))))
theorem sc_is_number : FnScope g_is_number.N ["thing", "least"] (defScope s_is_number) := ⟨rfl, rfl, rfl, by decide +kernel, rfl, by decide +kernel, by decide +kernel⟩
abbrev s_are_names : Stmt := topS 20
noncomputable def l_are_names_0 : Sl → R D := (vAnd (m1 (fIsi "str") (mVar 1)) (mFr (mCall e_is_name.fn (mCons (mVar 1) mNil))))
noncomputable def m_are_names : Sl → RS := (sRet (mF fAll (mCons (mFr (mLc (mIt (mVar 0)) [1] (put 1) mYes l_are_names_0)) mNil)))
noncomputable def e_are_names : FE := ⟨"are_names", 2, 1, runD 2 m_are_names 1⟩
noncomputable def g_are_names : Gm := { N := ["things", "thing"], sc := defScope s_are_names, T := [e_is_name], X := ["all", "isinstance", "str"], C := [], k := 1, st := fun _ => true, E := [], I := [], Q := [] }
theorem v_are_names_0 : varB g_are_names 0 "things" = true := by decide +kernel
theorem c_are_names {G : Gd} (gr : g_are_names.Gr G) : CSs G g_are_names (defBody s_are_names) m_are_names := (css_one (cs_ret (ce_bn gr b_all boot_all (by decide +kernel) (ca_cons rfl (ce_of_co (co_lc (own := [("thing", 1)]) (ci_val (ce_v v_are_names_0)) (by decide +kernel) (by decide) (cg_n (by decide +kernel)) cts_nil (ce_and (ce_isn (gr.blk _) boot_str (by decide +kernel) (ce_v (by decide +kernel))) (ce_one (ce_of_co (co_cn (e := e_is_name) (gr.blk _) (.head _) (by decide +kernel) (ca_cons rfl (ce_v (by decide +kernel)) ca_nil))))) rfl)) ca_nil))))
theorem sc_are_names : FnScope g_are_names.N ["things"] (defScope s_are_names) := ⟨rfl, rfl, rfl, by decide +kernel, rfl, by decide +kernel, by decide +kernel⟩
abbrev s_is_line : Stmt := topS 21
noncomputable def m_is_line : Sl → RS := (sRet (vAnd (m1 (fIsi "tuple") (mVar 0)) (vAnd (m2 fEq (mF fLen (mCons (mVar 0) mNil)) (mC (.int 2))) (vAnd (mFr (mCall e_are_names.fn (mCons (mSl (mVar 0) mNoP (mP (mC (.int 1)))) mNil))) (mFr (mCall e_is_number.fn (mCons (m2 fIx (mVar 0) (mC (.int 1))) (mCons (mC (.int 0)) mNil))))))))
noncomputable def e_is_line : FE := ⟨"is_line", 3, 1, runD 1 m_is_line 1⟩
noncomputable def g_is_line : Gm := { N := ["thing"], sc := defScope s_is_line, T := [e_are_names, e_is_number], X := ["isinstance", "tuple", "len"], C := [], k := 2, st := fun _ => true, E := [], I := [], Q := [] }
theorem v_is_line_0 : varB g_is_line 0 "thing" = true := by decide +kernel
theorem c_is_line {G : Gd} (gr : g_is_line.Gr G) : CSs G g_is_line (defBody s_is_line) m_is_line := (css_one (cs_ret (ce_and (ce_isn gr boot_tuple (by decide +kernel) (ce_v v_is_line_0)) (ce_and (ce_cmp o_eq rfl (ce_bn gr b_len boot_len (by decide +kernel) (ca_cons rfl (ce_v v_is_line_0) ca_nil)) ce_int) (ce_and (ce_of_co (co_cn (e := e_are_names) gr (.head _) (by decide +kernel) (ca_cons rfl (ce_sl (ce_v v_is_line_0) cp_none (cp_some ce_int)) ca_nil))) (ce_one (ce_of_co (co_cn (e := e_is_number) gr (.tail _ (.head _)) (by decide +kernel) (ca_cons rfl (ce_ix rfl (ce_v v_is_line_0) ce_int) (ca_cons rfl ce_int ca_nil))))))))))
theorem sc_is_line : FnScope g_is_line.N ["thing"] (defScope s_is_line) := ⟨rfl, rfl, rfl, by decide +kernel, rfl, by decide +kernel, by decide +kernel⟩
abbrev s_are_lines : Stmt := topS 22
noncomputable def l_are_lines_0 : Sl → R D := (mFr (mCall e_is_line.fn (mCons (mVar 1) mNil)))
noncomputable def m_are_lines : Sl → RS := (sRet (vAnd (m1 (fIsi "tuple") (mVar 0)) (vAnd (mCh fLe fLe (mC (.int 1)) (mF fLen (mCons (mVar 0) mNil)) (mC (.int 8))) (mF fAll (mCons (mFr (mLc (mIt (mVar 0)) [1] (put 1) mYes l_are_lines_0)) mNil)))))
noncomputable def e_are_lines : FE := ⟨"are_lines", 4, 1, runD 2 m_are_lines 1⟩
noncomputable def g_are_lines : Gm := { N := ["thing", "line"], sc := defScope s_are_lines, T := [e_is_line], X := ["isinstance", "tuple", "len", "all"], C := [("MOST_LINES", (.int 8))], k := 3, st := fun _ => true, E := [], I := [], Q := [] }
theorem v_are_lines_0 : varB g_are_lines 0 "thing" = true := by decide +kernel
theorem c_are_lines {G : Gd} (gr : g_are_lines.Gr G) : CSs G g_are_lines (defBody s_are_lines) m_are_lines := (css_one (cs_ret (ce_and (ce_isn gr boot_tuple (by decide +kernel) (ce_v v_are_lines_0)) (ce_and (ce_chain o_le o_le rfl ce_int (ce_bn gr b_len boot_len (by decide +kernel) (ca_cons rfl (ce_v v_are_lines_0) ca_nil)) (ce_gl gr (.head _) (by decide +kernel))) (ce_one (ce_bn gr b_all boot_all (by decide +kernel) (ca_cons rfl (ce_of_co (co_lc (own := [("line", 1)]) (ci_val (ce_v v_are_lines_0)) (by decide +kernel) (by decide) (cg_n (by decide +kernel)) cts_nil (ce_of_co (co_cn (e := e_is_line) (gr.blk _) (.head _) (by decide +kernel) (ca_cons rfl (ce_v (by decide +kernel)) ca_nil))) rfl)) ca_nil)))))))
theorem sc_are_lines : FnScope g_are_lines.N ["thing"] (defScope s_are_lines) := ⟨rfl, rfl, rfl, by decide +kernel, rfl, by decide +kernel, by decide +kernel⟩
abbrev s_are_firsts : Stmt := topS 23
noncomputable def m_are_firsts : Sl → RS := (sSeq (sIf (mOr (mNot (mB (m1 (fIsi "tuple") (mVar 0)))) (mOr (mB (m2 fGt (mF fLen (mCons (mVar 0) mNil)) (mC (.int 8)))) (mNot (mB (mFr (mCall e_are_names.fn (mCons (mVar 0) mNil))))))) (sRet (mC (.bl false))) sNext) (sRet (m2 fEq (mF fLen (mCons (mVar 0) mNil)) (m1 fLenSet (mVar 0)))))
noncomputable def e_are_firsts : FE := ⟨"are_firsts", 3, 1, runD 1 m_are_firsts 1⟩
noncomputable def g_are_firsts : Gm := { N := ["thing"], sc := defScope s_are_firsts, T := [e_are_names], X := ["isinstance", "tuple", "len", "set"], C := [("MOST_FIRST", (.int 8))], k := 2, st := fun _ => true, E := [], I := [], Q := [] }
theorem v_are_firsts_0 : varB g_are_firsts 0 "thing" = true := by decide +kernel
theorem c_are_firsts {G : Gd} (gr : g_are_firsts.Gr G) : CSs G g_are_firsts (defBody s_are_firsts) m_are_firsts := (css_cons (cs_if (CW.ct (cw_or (ct_not (ct_val rfl (ce_isn gr boot_tuple (by decide +kernel) (ce_v v_are_firsts_0)))) (cw_or (ct_cmp o_gt rfl (ce_bn gr b_len boot_len (by decide +kernel) (ca_cons rfl (ce_v v_are_firsts_0) ca_nil)) (ce_gl gr (.head _) (by decide +kernel))) (cw_or1 (ct_not (ct_val rfl (ce_of_co (co_cn (e := e_are_names) gr (.head _) (by decide +kernel) (ca_cons rfl (ce_v v_are_firsts_0) ca_nil))))))))) (css_one (cs_ret ce_bl)) css_nil) (css_one (cs_ret (ce_cmp o_eq rfl (ce_bn gr b_len boot_len (by decide +kernel) (ca_cons rfl (ce_v v_are_firsts_0) ca_nil)) (ce_lenSet gr (by decide +kernel) (ce_v v_are_firsts_0))))))
theorem sc_are_firsts : FnScope g_are_firsts.N ["thing"] (defScope s_are_firsts) := ⟨rfl, rfl, rfl, by decide +kernel, rfl, by decide +kernel, by decide +kernel⟩
abbrev s_is_buy : Stmt := topS 24
noncomputable def m_is_buy : Sl → RS := (sRet (vAnd (m2 fEq (mF fLen (mCons (mVar 0) mNil)) (mC (.int 5))) (vAnd (mFr (mCall e_are_names.fn (mCons (mFr (mLst (mCons (m2 fIx (mVar 0) (mC (.int 1))) (mCons (m2 fIx (mVar 0) (mC (.int 3))) mNil)))) mNil))) (vAnd (mFr (mCall e_is_number.fn (mCons (m2 fIx (mVar 0) (mC (.int 2))) (mCons (mC (.int 0)) mNil)))) (mFr (mCall e_are_lines.fn (mCons (m2 fIx (mVar 0) (mC (.int 4))) mNil)))))))
noncomputable def e_is_buy : FE := ⟨"is_buy", 5, 1, runD 1 m_is_buy 1⟩
noncomputable def g_is_buy : Gm := { N := ["deed"], sc := defScope s_is_buy, T := [e_are_names, e_is_number, e_are_lines], X := ["len"], C := [], k := 4, st := fun _ => true, E := [], I := [], Q := [] }
theorem v_is_buy_0 : varB g_is_buy 0 "deed" = true := by decide +kernel
theorem c_is_buy {G : Gd} (gr : g_is_buy.Gr G) : CSs G g_is_buy (defBody s_is_buy) m_is_buy := (css_one (cs_ret (ce_and (ce_cmp o_eq rfl (ce_bn gr b_len boot_len (by decide +kernel) (ca_cons rfl (ce_v v_is_buy_0) ca_nil)) ce_int) (ce_and (ce_of_co (co_cn (e := e_are_names) gr (.head _) (by decide +kernel) (ca_cons rfl (ce_of_co (co_lst (ca_cons rfl (ce_ix rfl (ce_v v_is_buy_0) ce_int) (ca_cons rfl (ce_ix rfl (ce_v v_is_buy_0) ce_int) ca_nil)))) ca_nil))) (ce_and (ce_of_co (co_cn (e := e_is_number) gr (.tail _ (.head _)) (by decide +kernel) (ca_cons rfl (ce_ix rfl (ce_v v_is_buy_0) ce_int) (ca_cons rfl ce_int ca_nil)))) (ce_one (ce_of_co (co_cn (e := e_are_lines) gr (.tail _ (.tail _ (.head _))) (by decide +kernel) (ca_cons rfl (ce_ix rfl (ce_v v_is_buy_0) ce_int) ca_nil)))))))))
theorem sc_is_buy : FnScope g_is_buy.N ["deed"] (defScope s_is_buy) := ⟨rfl, rfl, rfl, by decide +kernel, rfl, by decide +kernel, by decide +kernel⟩
abbrev s_is_spend : Stmt := topS 25
noncomputable def m_is_spend : Sl → RS := (sSeq (sIf (mOr (mB (m2 fNe (mF fLen (mCons (mVar 0) mNil)) (mC (.int 6)))) (mOr (mNot (mB (mFr (mCall e_are_names.fn (mCons (mFr (mLst (mCons (m2 fIx (mVar 0) (mC (.int 1))) (mCons (m2 fIx (mVar 0) (mC (.int 3))) mNil)))) mNil))))) (mNot (mB (mFr (mCall e_is_number.fn (mCons (m2 fIx (mVar 0) (mC (.int 2))) (mCons (mC (.int 0)) mNil)))))))) (sRet (mC (.bl false))) sNext) (sRet (vAnd (mFr (mCall e_is_number.fn (mCons (m2 fIx (mVar 0) (mC (.int 4))) (mCons (mC (.int 1)) mNil)))) (mFr (mCall e_are_firsts.fn (mCons (m2 fIx (mVar 0) (mC (.int 5))) mNil))))))
noncomputable def e_is_spend : FE := ⟨"is_spend", 4, 1, runD 1 m_is_spend 1⟩
noncomputable def g_is_spend : Gm := { N := ["deed"], sc := defScope s_is_spend, T := [e_are_names, e_is_number, e_are_firsts], X := ["len"], C := [], k := 3, st := fun _ => true, E := [], I := [], Q := [] }
theorem v_is_spend_0 : varB g_is_spend 0 "deed" = true := by decide +kernel
theorem c_is_spend {G : Gd} (gr : g_is_spend.Gr G) : CSs G g_is_spend (defBody s_is_spend) m_is_spend := (css_cons (cs_if (CW.ct (cw_or (ct_cmp o_ne rfl (ce_bn gr b_len boot_len (by decide +kernel) (ca_cons rfl (ce_v v_is_spend_0) ca_nil)) ce_int) (cw_or (ct_not (ct_val rfl (ce_of_co (co_cn (e := e_are_names) gr (.head _) (by decide +kernel) (ca_cons rfl (ce_of_co (co_lst (ca_cons rfl (ce_ix rfl (ce_v v_is_spend_0) ce_int) (ca_cons rfl (ce_ix rfl (ce_v v_is_spend_0) ce_int) ca_nil)))) ca_nil))))) (cw_or1 (ct_not (ct_val rfl (ce_of_co (co_cn (e := e_is_number) gr (.tail _ (.head _)) (by decide +kernel) (ca_cons rfl (ce_ix rfl (ce_v v_is_spend_0) ce_int) (ca_cons rfl ce_int ca_nil)))))))))) (css_one (cs_ret ce_bl)) css_nil) (css_one (cs_ret (ce_and (ce_of_co (co_cn (e := e_is_number) gr (.tail _ (.head _)) (by decide +kernel) (ca_cons rfl (ce_ix rfl (ce_v v_is_spend_0) ce_int) (ca_cons rfl ce_int ca_nil)))) (ce_one (ce_of_co (co_cn (e := e_are_firsts) gr (.tail _ (.tail _ (.head _))) (by decide +kernel) (ca_cons rfl (ce_ix rfl (ce_v v_is_spend_0) ce_int) ca_nil))))))))
theorem sc_is_spend : FnScope g_is_spend.N ["deed"] (defScope s_is_spend) := ⟨rfl, rfl, rfl, by decide +kernel, rfl, by decide +kernel, by decide +kernel⟩
abbrev s_is_moving : Stmt := topS 26
noncomputable def m_is_moving : Sl → RS := (sSeq (sIf (mOr (mB (m2 fNe (mF fLen (mCons (mVar 0) mNil)) (mVar 1))) (mOr (mNot (mB (mFr (mCall e_are_names.fn (mCons (mFr (mLst (mCons (m2 fIx (mVar 0) (mC (.int 1))) (mCons (m2 fIx (mVar 0) (mC (.int 3))) (mCons (m2 fIx (mVar 0) (mC (.int 4))) mNil))))) mNil))))) (mB (m2 fEq (m2 fIx (mVar 0) (mC (.int 3))) (m2 fIx (mVar 0) (mC (.int 4))))))) (sRet (mC (.bl false))) sNext) (sRet (vAnd (mFr (mCall e_is_number.fn (mCons (m2 fIx (mVar 0) (mC (.int 2))) (mCons (mC (.int 0)) mNil)))) (mFr (mCall e_is_number.fn (mCons (m2 fIx (mVar 0) (mC (.int 5))) (mCons (mC (.int 1)) mNil)))))))
noncomputable def e_is_moving : FE := ⟨"is_moving", 3, 2, runD 2 m_is_moving 2⟩
noncomputable def g_is_moving : Gm := { N := ["deed", "many"], sc := defScope s_is_moving, T := [e_are_names, e_is_number], X := ["len"], C := [], k := 2, st := fun _ => true, E := [], I := [], Q := [] }
theorem v_is_moving_0 : varB g_is_moving 0 "deed" = true := by decide +kernel
theorem v_is_moving_1 : varB g_is_moving 1 "many" = true := by decide +kernel
theorem c_is_moving {G : Gd} (gr : g_is_moving.Gr G) : CSs G g_is_moving (defBody s_is_moving) m_is_moving := (css_cons (cs_if (CW.ct (cw_or (ct_cmp o_ne rfl (ce_bn gr b_len boot_len (by decide +kernel) (ca_cons rfl (ce_v v_is_moving_0) ca_nil)) (ce_v v_is_moving_1)) (cw_or (ct_not (ct_val rfl (ce_of_co (co_cn (e := e_are_names) gr (.head _) (by decide +kernel) (ca_cons rfl (ce_of_co (co_lst (ca_cons rfl (ce_ix rfl (ce_v v_is_moving_0) ce_int) (ca_cons rfl (ce_ix rfl (ce_v v_is_moving_0) ce_int) (ca_cons rfl (ce_ix rfl (ce_v v_is_moving_0) ce_int) ca_nil))))) ca_nil))))) (cw_or1 (ct_cmp o_eq rfl (ce_ix rfl (ce_v v_is_moving_0) ce_int) (ce_ix rfl (ce_v v_is_moving_0) ce_int)))))) (css_one (cs_ret ce_bl)) css_nil) (css_one (cs_ret (ce_and (ce_of_co (co_cn (e := e_is_number) gr (.tail _ (.head _)) (by decide +kernel) (ca_cons rfl (ce_ix rfl (ce_v v_is_moving_0) ce_int) (ca_cons rfl ce_int ca_nil)))) (ce_one (ce_of_co (co_cn (e := e_is_number) gr (.tail _ (.head _)) (by decide +kernel) (ca_cons rfl (ce_ix rfl (ce_v v_is_moving_0) ce_int) (ca_cons rfl ce_int ca_nil)))))))))
theorem sc_is_moving : FnScope g_is_moving.N ["deed", "many"] (defScope s_is_moving) := ⟨rfl, rfl, rfl, by decide +kernel, rfl, by decide +kernel, by decide +kernel⟩
abbrev s_is_lend : Stmt := topS 27
noncomputable def m_is_lend : Sl → RS := (sRet (vAnd (mFr (mCall e_is_moving.fn (mCons (mVar 0) (mCons (mC (.int 7)) mNil)))) (mFr (mCall e_is_number.fn (mCons (m2 fIx (mVar 0) (mC (.int 6))) (mCons (m2 fAdd (m2 fIx (mVar 0) (mC (.int 2))) (mC (.int 1))) mNil))))))
noncomputable def e_is_lend : FE := ⟨"is_lend", 4, 1, runD 1 m_is_lend 1⟩
noncomputable def g_is_lend : Gm := { N := ["deed"], sc := defScope s_is_lend, T := [e_is_moving, e_is_number], X := [], C := [], k := 3, st := fun _ => true, E := [], I := [], Q := [] }
theorem v_is_lend_0 : varB g_is_lend 0 "deed" = true := by decide +kernel
theorem c_is_lend {G : Gd} (gr : g_is_lend.Gr G) : CSs G g_is_lend (defBody s_is_lend) m_is_lend := (css_one (cs_ret (ce_and (ce_of_co (co_cn (e := e_is_moving) gr (.head _) (by decide +kernel) (ca_cons rfl (ce_v v_is_lend_0) (ca_cons rfl ce_int ca_nil)))) (ce_one (ce_of_co (co_cn (e := e_is_number) gr (.tail _ (.head _)) (by decide +kernel) (ca_cons rfl (ce_ix rfl (ce_v v_is_lend_0) ce_int) (ca_cons rfl (ce_bin o_add (ce_ix rfl (ce_v v_is_lend_0) ce_int) ce_int) ca_nil))))))))
theorem sc_is_lend : FnScope g_is_lend.N ["deed"] (defScope s_is_lend) := ⟨rfl, rfl, rfl, by decide +kernel, rfl, by decide +kernel, by decide +kernel⟩
abbrev s_is_back : Stmt := topS 28
noncomputable def m_is_back : Sl → RS := (sRet (vAnd (m2 fEq (mF fLen (mCons (mVar 0) mNil)) (mC (.int 4))) (vAnd (mFr (mCall e_are_names.fn (mCons (mFr (mLst (mCons (m2 fIx (mVar 0) (mC (.int 1))) (mCons (m2 fIx (mVar 0) (mC (.int 3))) mNil)))) mNil))) (vAnd (mFr (mCall e_is_number.fn (mCons (m2 fIx (mVar 0) (mC (.int 2))) (mCons (mC (.int 0)) mNil)))) (m2 fNe (m2 fIx (mVar 0) (mC (.int 1))) (m2 fIx (mVar 0) (mC (.int 3))))))))
noncomputable def e_is_back : FE := ⟨"is_back", 3, 1, runD 1 m_is_back 1⟩
noncomputable def g_is_back : Gm := { N := ["deed"], sc := defScope s_is_back, T := [e_are_names, e_is_number], X := ["len"], C := [], k := 2, st := fun _ => true, E := [], I := [], Q := [] }
theorem v_is_back_0 : varB g_is_back 0 "deed" = true := by decide +kernel
theorem c_is_back {G : Gd} (gr : g_is_back.Gr G) : CSs G g_is_back (defBody s_is_back) m_is_back := (css_one (cs_ret (ce_and (ce_cmp o_eq rfl (ce_bn gr b_len boot_len (by decide +kernel) (ca_cons rfl (ce_v v_is_back_0) ca_nil)) ce_int) (ce_and (ce_of_co (co_cn (e := e_are_names) gr (.head _) (by decide +kernel) (ca_cons rfl (ce_of_co (co_lst (ca_cons rfl (ce_ix rfl (ce_v v_is_back_0) ce_int) (ca_cons rfl (ce_ix rfl (ce_v v_is_back_0) ce_int) ca_nil)))) ca_nil))) (ce_and (ce_of_co (co_cn (e := e_is_number) gr (.tail _ (.head _)) (by decide +kernel) (ca_cons rfl (ce_ix rfl (ce_v v_is_back_0) ce_int) (ca_cons rfl ce_int ca_nil)))) (ce_one (ce_cmp o_ne rfl (ce_ix rfl (ce_v v_is_back_0) ce_int) (ce_ix rfl (ce_v v_is_back_0) ce_int))))))))
theorem sc_is_back : FnScope g_is_back.N ["deed"] (defScope s_is_back) := ⟨rfl, rfl, rfl, by decide +kernel, rfl, by decide +kernel, by decide +kernel⟩
abbrev s_is_fix : Stmt := topS 29
noncomputable def m_is_fix : Sl → RS := (sRet (vAnd (m2 fEq (mF fLen (mCons (mVar 0) mNil)) (mC (.int 4))) (vAnd (mFr (mCall e_are_names.fn (mCons (mSl (mVar 0) (mP (mC (.int 1))) (mP (mC (.int 3)))) mNil))) (vAnd (m2 fNe (m2 fIx (mVar 0) (mC (.int 1))) (m2 fIx (mVar 0) (mC (.int 2)))) (mFr (mCall e_are_lines.fn (mCons (m2 fIx (mVar 0) (mC (.int 3))) mNil)))))))
noncomputable def e_is_fix : FE := ⟨"is_fix", 5, 1, runD 1 m_is_fix 1⟩
noncomputable def g_is_fix : Gm := { N := ["deed"], sc := defScope s_is_fix, T := [e_are_names, e_are_lines], X := ["len"], C := [], k := 4, st := fun _ => true, E := [], I := [], Q := [] }
theorem v_is_fix_0 : varB g_is_fix 0 "deed" = true := by decide +kernel
theorem c_is_fix {G : Gd} (gr : g_is_fix.Gr G) : CSs G g_is_fix (defBody s_is_fix) m_is_fix := (css_one (cs_ret (ce_and (ce_cmp o_eq rfl (ce_bn gr b_len boot_len (by decide +kernel) (ca_cons rfl (ce_v v_is_fix_0) ca_nil)) ce_int) (ce_and (ce_of_co (co_cn (e := e_are_names) gr (.head _) (by decide +kernel) (ca_cons rfl (ce_sl (ce_v v_is_fix_0) (cp_some ce_int) (cp_some ce_int)) ca_nil))) (ce_and (ce_cmp o_ne rfl (ce_ix rfl (ce_v v_is_fix_0) ce_int) (ce_ix rfl (ce_v v_is_fix_0) ce_int)) (ce_one (ce_of_co (co_cn (e := e_are_lines) gr (.tail _ (.head _)) (by decide +kernel) (ca_cons rfl (ce_ix rfl (ce_v v_is_fix_0) ce_int) ca_nil)))))))))
theorem sc_is_fix : FnScope g_is_fix.N ["deed"] (defScope s_is_fix) := ⟨rfl, rfl, rfl, by decide +kernel, rfl, by decide +kernel, by decide +kernel⟩
abbrev s_is_deed : Stmt := topS 30
noncomputable def m_is_deed : Sl → RS := (sSeq (sIf (mB (m2 fEq (m2 fIx (mVar 0) (mC (.int 0))) (mC (.str "buy")))) (sRetO (mCall e_is_buy.fn (mCons (mVar 0) mNil))) sNext) (sSeq (sIf (mB (m2 fEq (m2 fIx (mVar 0) (mC (.int 0))) (mC (.str "spend")))) (sRetO (mCall e_is_spend.fn (mCons (mVar 0) mNil))) sNext) (sSeq (sIf (mB (m2 fIn (m2 fIx (mVar 0) (mC (.int 0))) (mTup (mCons (mC (.str "give")) (mCons (mC (.str "change")) mNil))))) (sRetO (mCall e_is_moving.fn (mCons (mVar 0) (mCons (mC (.int 6)) mNil)))) sNext) (sSeq (sIf (mB (m2 fEq (m2 fIx (mVar 0) (mC (.int 0))) (mC (.str "lend")))) (sRetO (mCall e_is_lend.fn (mCons (mVar 0) mNil))) sNext) (sSeq (sIf (mB (m2 fEq (m2 fIx (mVar 0) (mC (.int 0))) (mC (.str "back")))) (sRetO (mCall e_is_back.fn (mCons (mVar 0) mNil))) sNext) (sRet (vAnd (m2 fEq (m2 fIx (mVar 0) (mC (.int 0))) (mC (.str "fix"))) (mFr (mCall e_is_fix.fn (mCons (mVar 0) mNil))))))))))
noncomputable def e_is_deed : FE := ⟨"is_deed", 6, 1, runD 1 m_is_deed 1⟩
noncomputable def g_is_deed : Gm := { N := ["deed"], sc := defScope s_is_deed, T := [e_is_buy, e_is_spend, e_is_moving, e_is_lend, e_is_back, e_is_fix], X := [], C := [], k := 5, st := fun _ => true, E := [], I := [], Q := [] }
theorem v_is_deed_0 : varB g_is_deed 0 "deed" = true := by decide +kernel
theorem c_is_deed {G : Gd} (gr : g_is_deed.Gr G) : CSs G g_is_deed (defBody s_is_deed) m_is_deed := (css_cons (cs_if (ct_cmp o_eq rfl (ce_ix rfl (ce_v v_is_deed_0) ce_int) ce_str) (css_one (cs_retO (co_cn (e := e_is_buy) gr (.head _) (by decide +kernel) (ca_cons rfl (ce_v v_is_deed_0) ca_nil)))) css_nil) (css_cons (cs_if (ct_cmp o_eq rfl (ce_ix rfl (ce_v v_is_deed_0) ce_int) ce_str) (css_one (cs_retO (co_cn (e := e_is_spend) gr (.tail _ (.head _)) (by decide +kernel) (ca_cons rfl (ce_v v_is_deed_0) ca_nil)))) css_nil) (css_cons (cs_if (ct_cmp o_in rfl (ce_ix rfl (ce_v v_is_deed_0) ce_int) (ce_tup (ca_cons rfl ce_str (ca_cons rfl ce_str ca_nil)))) (css_one (cs_retO (co_cn (e := e_is_moving) gr (.tail _ (.tail _ (.head _))) (by decide +kernel) (ca_cons rfl (ce_v v_is_deed_0) (ca_cons rfl ce_int ca_nil))))) css_nil) (css_cons (cs_if (ct_cmp o_eq rfl (ce_ix rfl (ce_v v_is_deed_0) ce_int) ce_str) (css_one (cs_retO (co_cn (e := e_is_lend) gr (.tail _ (.tail _ (.tail _ (.head _)))) (by decide +kernel) (ca_cons rfl (ce_v v_is_deed_0) ca_nil)))) css_nil) (css_cons (cs_if (ct_cmp o_eq rfl (ce_ix rfl (ce_v v_is_deed_0) ce_int) ce_str) (css_one (cs_retO (co_cn (e := e_is_back) gr (.tail _ (.tail _ (.tail _ (.tail _ (.head _))))) (by decide +kernel) (ca_cons rfl (ce_v v_is_deed_0) ca_nil)))) css_nil) (css_one (cs_ret (ce_and (ce_cmp o_eq rfl (ce_ix rfl (ce_v v_is_deed_0) ce_int) ce_str) (ce_one (ce_of_co (co_cn (e := e_is_fix) gr (.tail _ (.tail _ (.tail _ (.tail _ (.tail _ (.head _)))))) (by decide +kernel) (ca_cons rfl (ce_v v_is_deed_0) ca_nil))))))))))))
theorem sc_is_deed : FnScope g_is_deed.N ["deed"] (defScope s_is_deed) := ⟨rfl, rfl, rfl, by decide +kernel, rfl, by decide +kernel, by decide +kernel⟩
abbrev s_checked_deed : Stmt := topS 31
noncomputable def m_checked_deed : Sl → RS := (sSeq (sIf (mNot (mB (mFr (mCall e_is_deed.fn (mCons (mVar 0) mNil))))) (sRaise "BadDeed") sNext) (sRet (mC (.bl true))))
noncomputable def e_checked_deed : FE := ⟨"checked_deed", 7, 1, runD 1 m_checked_deed 1⟩
noncomputable def g_checked_deed : Gm := { N := ["deed"], sc := defScope s_checked_deed, T := [e_is_deed], X := [], C := [], k := 6, st := fun _ => true, E := ["BadDeed"], I := [], Q := [] }
theorem v_checked_deed_0 : varB g_checked_deed 0 "deed" = true := by decide +kernel
theorem c_checked_deed {G : Gd} (gr : g_checked_deed.Gr G) : CSs G g_checked_deed (defBody s_checked_deed) m_checked_deed := (css_cons (cs_if (ct_not (ct_val rfl (ce_of_co (co_cn (e := e_is_deed) gr (.head _) (by decide +kernel) (ca_cons rfl (ce_v v_checked_deed_0) ca_nil))))) (css_one (cs_ra gr (by decide +kernel))) css_nil) (css_one (cs_ret ce_bl)))
theorem sc_checked_deed : FnScope g_checked_deed.N ["deed"] (defScope s_checked_deed) := ⟨rfl, rfl, rfl, by decide +kernel, rfl, by decide +kernel, by decide +kernel⟩
abbrev s_number_of : Stmt := topS 35
noncomputable def b_number_of_0 : Sl → RS := (sIf (mB (m2 fNin (mVar 1) (mC (.str "0123456789")))) (sRaise "BadDeed") sNext)
noncomputable def m_number_of : Sl → RS := (sSeq (sIf (mOr (mNot (mB (mCh fLe fLe (mC (.int 1)) (mF fLen (mCons (mVar 0) mNil)) (mC (.int 12))))) (mAnd (mB (m2 fGt (mF fLen (mCons (mVar 0) mNil)) (mC (.int 1)))) (mB (m2 fEq (m2 fIx (mVar 0) (mC (.int 0))) (mC (.str "0")))))) (sRaise "BadDeed") sNext) (sSeq (sFor (mIt (mVar 0)) (put 1) b_number_of_0) (sRet (mF fIntS (mCons (mVar 0) mNil)))))
noncomputable def e_number_of : FE := ⟨"number_of", 1, 1, runD 2 m_number_of 1⟩
noncomputable def g_number_of : Gm := { N := ["word", "sign"], sc := defScope s_number_of, T := [], X := ["len", "int"], C := [("LONGEST_deedtext", (.int 12)), ("FIGURES", (.str "0123456789"))], k := 0, st := fun _ => true, E := ["BadDeed"], I := [], Q := [] }
theorem v_number_of_0 : varB g_number_of 0 "word" = true := by decide +kernel
theorem v_number_of_1 : varB g_number_of 1 "sign" = true := by decide +kernel
theorem w_number_of_1 : stB g_number_of 1 "sign" = true := by decide +kernel
theorem c_number_of {G : Gd} (gr : g_number_of.Gr G) : CSs G g_number_of (defBody s_number_of) m_number_of := (css_cons (cs_if (CW.ct (cw_or (ct_not (ct_chain o_le o_le rfl ce_int (ce_bn gr b_len boot_len (by decide +kernel) (ca_cons rfl (ce_v v_number_of_0) ca_nil)) (ce_gl gr (.head _) (by decide +kernel)))) (cw_or1 (CW.ct (cw_and (ct_cmp o_gt rfl (ce_bn gr b_len boot_len (by decide +kernel) (ca_cons rfl (ce_v v_number_of_0) ca_nil)) ce_int) (cw_and1 (ct_cmp o_eq rfl (ce_ix rfl (ce_v v_number_of_0) ce_int) ce_str))))))) (css_one (cs_ra gr (by decide +kernel))) css_nil) (css_cons (cs_for rfl (ci_val (ce_v v_number_of_0)) (cg_n w_number_of_1) (css_one (cs_if (ct_cmp o_nin rfl (ce_v v_number_of_1) (ce_gl gr (.tail _ (.head _)) (by decide +kernel))) (css_one (cs_ra gr (by decide +kernel))) css_nil))) (css_one (cs_ret (ce_tn gr b_intS boot_int (by decide +kernel) (ca_cons rfl (ce_v v_number_of_0) ca_nil))))))
theorem sc_number_of : FnScope g_number_of.N ["word"] (defScope s_number_of) := ⟨rfl, rfl, rfl, by decide +kernel, rfl, by decide +kernel, by decide +kernel⟩
abbrev s_lines_of : Stmt := topS 36
noncomputable def l_lines_of_0 : Sl → R D := (mTup (mCons (m2 fIx (mVar 0) (mVar 1)) (mCons (mFr (mCall e_number_of.fn (mCons (m2 fIx (mVar 0) (m2 fAdd (mVar 1) (mC (.int 1)))) mNil))) mNil)))
noncomputable def m_lines_of : Sl → RS := (sSeq (sIf (mB (m2 fEq (m2 fMod (mF fLen (mCons (mVar 0) mNil)) (mC (.int 2))) (mC (.int 1)))) (sRaise "BadDeed") sNext) (sRet (mF fTuple (mCons (mFr (mLcE (mRg3 (mC (.int 0)) (mF fLen (mCons (mVar 0) mNil)) (mC (.int 2))) [1] (put 1) l_lines_of_0)) mNil))))
noncomputable def e_lines_of : FE := ⟨"lines_of", 2, 1, runD 2 m_lines_of 1⟩
noncomputable def g_lines_of : Gm := { N := ["words", "k"], sc := defScope s_lines_of, T := [e_number_of], X := ["len", "tuple", "range"], C := [], k := 1, st := fun _ => true, E := ["BadDeed"], I := [], Q := [] }
theorem v_lines_of_0 : varB g_lines_of 0 "words" = true := by decide +kernel
theorem c_lines_of {G : Gd} (gr : g_lines_of.Gr G) : CSs G g_lines_of (defBody s_lines_of) m_lines_of := (css_cons (cs_if (ct_cmp o_eq rfl (ce_bin o_mod (ce_bn gr b_len boot_len (by decide +kernel) (ca_cons rfl (ce_v v_lines_of_0) ca_nil)) ce_int) ce_int) (css_one (cs_ra gr (by decide +kernel))) css_nil) (css_one (cs_ret (ce_tn gr b_tuple boot_tuple (by decide +kernel) (ca_cons rfl (ce_of_co (co_lcE (own := [("k", 1)]) (ci_r3 gr (by decide +kernel) ce_int (ce_bn gr b_len boot_len (by decide +kernel) (ca_cons rfl (ce_v v_lines_of_0) ca_nil)) ce_int) (by decide +kernel) (by decide) (cg_n (by decide +kernel)) (ce_tup (ca_cons rfl (ce_ix rfl (ce_v (by decide +kernel)) (ce_v (by decide +kernel))) (ca_cons rfl (ce_of_co (co_cn (e := e_number_of) (gr.blk _) (.head _) (by decide +kernel) (ca_cons rfl (ce_ix rfl (ce_v (by decide +kernel)) (ce_bin o_add (ce_v (by decide +kernel)) ce_int)) ca_nil))) ca_nil))) rfl)) ca_nil)))))
theorem sc_lines_of : FnScope g_lines_of.N ["words"] (defScope s_lines_of) := ⟨rfl, rfl, rfl, by decide +kernel, rfl, by decide +kernel, by decide +kernel⟩
abbrev s_deed_of : Stmt := topS 37
noncomputable def l_deed_of_0 : Sl → R D := (mFr (mCall e_number_of.fn (mCons (mVar 3) mNil)))
noncomputable def m_deed_of : Sl → RS := (sSeq (sSet 1 (m2 fIx (mVar 0) (mC (.int 0)))) (sSeq (sIf (mB (m2 fEq (mVar 1) (mC (.str "fix")))) (sRet (m2 fAdd (m2 fAdd (mTup (mCons (mVar 1) mNil)) (mF fTuple (mCons (mSl (mVar 0) (mP (mC (.int 1))) (mP (mC (.int 3)))) mNil))) (mTup (mCons (mFr (mCall e_lines_of.fn (mCons (mSl (mVar 0) (mP (mC (.int 3))) mNoP) mNil))) mNil)))) sNext) (sSeq (sSet 2 (mTup (mCons (mVar 1) (mCons (m2 fIx (mVar 0) (mC (.int 1))) (mCons (mFr (mCall e_number_of.fn (mCons (m2 fIx (mVar 0) (mC (.int 2))) mNil))) mNil))))) (sSeq (sIf (mB (m2 fEq (mVar 1) (mC (.str "buy")))) (sRet (m2 fAdd (mVar 2) (mTup (mCons (m2 fIx (mVar 0) (mC (.int 3))) (mCons (mFr (mCall e_lines_of.fn (mCons (mSl (mVar 0) (mP (mC (.int 4))) mNoP) mNil))) mNil))))) sNext) (sSeq (sIf (mB (m2 fEq (mVar 1) (mC (.str "spend")))) (sRet (m2 fAdd (mVar 2) (mTup (mCons (m2 fIx (mVar 0) (mC (.int 3))) (mCons (mFr (mCall e_number_of.fn (mCons (m2 fIx (mVar 0) (mC (.int 4))) mNil))) (mCons (mF fTuple (mCons (mSl (mVar 0) (mP (mC (.int 5))) mNoP) mNil)) mNil)))))) sNext) (sSeq (sIf (mB (m2 fIn (mVar 1) (mTup (mCons (mC (.str "give")) (mCons (mC (.str "change")) (mCons (mC (.str "lend")) mNil)))))) (sRet (m2 fAdd (m2 fAdd (mVar 2) (mF fTuple (mCons (mSl (mVar 0) (mP (mC (.int 3))) (mP (mC (.int 5)))) mNil))) (mF fTuple (mCons (mFr (mLcE (mIt (mSl (mVar 0) (mP (mC (.int 5))) mNoP)) [3] (put 3) l_deed_of_0)) mNil)))) sNext) (sRet (m2 fAdd (mVar 2) (mF fTuple (mCons (mSl (mVar 0) (mP (mC (.int 3))) mNoP) mNil))))))))))
noncomputable def e_deed_of : FE := ⟨"deed_of", 3, 1, runD 4 m_deed_of 1⟩
noncomputable def g_deed_of : Gm := { N := ["words", "verb", "head", "word"], sc := defScope s_deed_of, T := [e_lines_of, e_number_of], X := ["tuple"], C := [], k := 2, st := fun _ => true, E := [], I := [], Q := [] }
theorem v_deed_of_0 : varB g_deed_of 0 "words" = true := by decide +kernel
theorem v_deed_of_1 : varB g_deed_of 1 "verb" = true := by decide +kernel
theorem v_deed_of_2 : varB g_deed_of 2 "head" = true := by decide +kernel
theorem w_deed_of_1 : stB g_deed_of 1 "verb" = true := by decide +kernel
theorem w_deed_of_2 : stB g_deed_of 2 "head" = true := by decide +kernel
theorem c_deed_of {G : Gd} (gr : g_deed_of.Gr G) : CSs G g_deed_of (defBody s_deed_of) m_deed_of := (css_cons (cs_s w_deed_of_1 (by decide +kernel) (ce_ix rfl (ce_v v_deed_of_0) ce_int)) (css_cons (cs_if (ct_cmp o_eq rfl (ce_v v_deed_of_1) ce_str) (css_one (cs_ret (ce_bin o_add (ce_bin o_add (ce_tup (ca_cons rfl (ce_v v_deed_of_1) ca_nil)) (ce_tn gr b_tuple boot_tuple (by decide +kernel) (ca_cons rfl (ce_sl (ce_v v_deed_of_0) (cp_some ce_int) (cp_some ce_int)) ca_nil))) (ce_tup (ca_cons rfl (ce_of_co (co_cn (e := e_lines_of) gr (.head _) (by decide +kernel) (ca_cons rfl (ce_sl (ce_v v_deed_of_0) (cp_some ce_int) cp_none) ca_nil))) ca_nil))))) css_nil) (css_cons (cs_s w_deed_of_2 (by decide +kernel) (ce_tup (ca_cons rfl (ce_v v_deed_of_1) (ca_cons rfl (ce_ix rfl (ce_v v_deed_of_0) ce_int) (ca_cons rfl (ce_of_co (co_cn (e := e_number_of) gr (.tail _ (.head _)) (by decide +kernel) (ca_cons rfl (ce_ix rfl (ce_v v_deed_of_0) ce_int) ca_nil))) ca_nil))))) (css_cons (cs_if (ct_cmp o_eq rfl (ce_v v_deed_of_1) ce_str) (css_one (cs_ret (ce_bin o_add (ce_v v_deed_of_2) (ce_tup (ca_cons rfl (ce_ix rfl (ce_v v_deed_of_0) ce_int) (ca_cons rfl (ce_of_co (co_cn (e := e_lines_of) gr (.head _) (by decide +kernel) (ca_cons rfl (ce_sl (ce_v v_deed_of_0) (cp_some ce_int) cp_none) ca_nil))) ca_nil)))))) css_nil) (css_cons (cs_if (ct_cmp o_eq rfl (ce_v v_deed_of_1) ce_str) (css_one (cs_ret (ce_bin o_add (ce_v v_deed_of_2) (ce_tup (ca_cons rfl (ce_ix rfl (ce_v v_deed_of_0) ce_int) (ca_cons rfl (ce_of_co (co_cn (e := e_number_of) gr (.tail _ (.head _)) (by decide +kernel) (ca_cons rfl (ce_ix rfl (ce_v v_deed_of_0) ce_int) ca_nil))) (ca_cons rfl (ce_tn gr b_tuple boot_tuple (by decide +kernel) (ca_cons rfl (ce_sl (ce_v v_deed_of_0) (cp_some ce_int) cp_none) ca_nil)) ca_nil))))))) css_nil) (css_cons (cs_if (ct_cmp o_in rfl (ce_v v_deed_of_1) (ce_tup (ca_cons rfl ce_str (ca_cons rfl ce_str (ca_cons rfl ce_str ca_nil))))) (css_one (cs_ret (ce_bin o_add (ce_bin o_add (ce_v v_deed_of_2) (ce_tn gr b_tuple boot_tuple (by decide +kernel) (ca_cons rfl (ce_sl (ce_v v_deed_of_0) (cp_some ce_int) (cp_some ce_int)) ca_nil))) (ce_tn gr b_tuple boot_tuple (by decide +kernel) (ca_cons rfl (ce_of_co (co_lcE (own := [("word", 3)]) (ci_val (ce_sl (ce_v v_deed_of_0) (cp_some ce_int) cp_none)) (by decide +kernel) (by decide) (cg_n (by decide +kernel)) (ce_of_co (co_cn (e := e_number_of) (gr.blk _) (.tail _ (.head _)) (by decide +kernel) (ca_cons rfl (ce_v (by decide +kernel)) ca_nil))) rfl)) ca_nil))))) css_nil) (css_one (cs_ret (ce_bin o_add (ce_v v_deed_of_2) (ce_tn gr b_tuple boot_tuple (by decide +kernel) (ca_cons rfl (ce_sl (ce_v v_deed_of_0) (cp_some ce_int) cp_none) ca_nil)))))))))))
theorem sc_deed_of : FnScope g_deed_of.N ["words"] (defScope s_deed_of) := ⟨rfl, rfl, rfl, by decide +kernel, rfl, by decide +kernel, by decide +kernel⟩
abbrev s_read_deed : Stmt := topS 38
noncomputable def l_read_deed_0 : Sl → R D := (mVar 2)
noncomputable def m_read_deed : Sl → RS := (sSeq (sSet 1 (mFr (mLc (mIt (mFr (mS1O fSplit (mVar 0) (mC (.str " "))))) [2] (put 2) (mB (m2 fNe (mVar 2) (mC (.str "")))) l_read_deed_0))) (sSeq (sIf (mOr (mB (m2 fLt (mF fLen (mCons (mVar 1) mNil)) (mC (.int 4)))) (mAnd (mB (m2 fEq (m2 fIx (mVar 1) (mC (.int 0))) (mC (.str "spend")))) (mB (m2 fLt (mF fLen (mCons (mVar 1) mNil)) (mC (.int 5)))))) (sRaise "BadDeed") sNext) (sSeq (sSet 3 (mFr (mCall e_deed_of.fn (mCons (mVar 1) mNil)))) (sSeq (sDrop (mFr (mCall e_checked_deed.fn (mCons (mVar 3) mNil)))) (sRet (mVar 3))))))
noncomputable def e_read_deed : FE := ⟨"read_deed", 8, 1, runD 4 m_read_deed 1⟩
noncomputable def g_read_deed : Gm := { N := ["text", "words", "word", "deed"], sc := defScope s_read_deed, T := [e_deed_of, e_checked_deed], X := ["len"], C := [], k := 7, st := fun _ => true, E := ["BadDeed"], I := [], Q := [] }
theorem v_read_deed_0 : varB g_read_deed 0 "text" = true := by decide +kernel
theorem v_read_deed_1 : varB g_read_deed 1 "words" = true := by decide +kernel
theorem v_read_deed_3 : varB g_read_deed 3 "deed" = true := by decide +kernel
theorem w_read_deed_1 : stB g_read_deed 1 "words" = true := by decide +kernel
theorem w_read_deed_3 : stB g_read_deed 3 "deed" = true := by decide +kernel
theorem c_read_deed {G : Gd} (gr : g_read_deed.Gr G) : CSs G g_read_deed (defBody s_read_deed) m_read_deed := (css_cons (cs_lcV w_read_deed_1 (by decide +kernel) (own := [("word", 2)]) (ci_val (ce_of_co (co_split (by decide +kernel) (ce_v v_read_deed_0) ce_str))) (by decide +kernel) (by decide) (cg_n (by decide +kernel)) (cts_one (ct_cmp o_ne rfl (ce_v (by decide +kernel)) ce_str)) (ce_v (by decide +kernel)) rfl) (css_cons (cs_if (CW.ct (cw_or (ct_cmp o_lt rfl (ce_bn gr b_len boot_len (by decide +kernel) (ca_cons rfl (ce_v v_read_deed_1) ca_nil)) ce_int) (cw_or1 (CW.ct (cw_and (ct_cmp o_eq rfl (ce_ix rfl (ce_v v_read_deed_1) ce_int) ce_str) (cw_and1 (ct_cmp o_lt rfl (ce_bn gr b_len boot_len (by decide +kernel) (ca_cons rfl (ce_v v_read_deed_1) ca_nil)) ce_int))))))) (css_one (cs_ra gr (by decide +kernel))) css_nil) (css_cons (cs_s w_read_deed_3 (by decide +kernel) (ce_of_co (co_cn (e := e_deed_of) gr (.head _) (by decide +kernel) (ca_cons rfl (ce_v v_read_deed_1) ca_nil)))) (css_cons (cs_expr rfl (ce_of_co (co_cn (e := e_checked_deed) gr (.tail _ (.head _)) (by decide +kernel) (ca_cons rfl (ce_v v_read_deed_3) ca_nil)))) (css_one (cs_ret (ce_v v_read_deed_3)))))))
theorem sc_read_deed : FnScope g_read_deed.N ["text"] (defScope s_read_deed) := ⟨rfl, rfl, rfl, by decide +kernel, rfl, by decide +kernel, by decide +kernel⟩
abbrev s_x_law_at : Stmt := topS 40
noncomputable def m_x_law_at : Sl → RS := (sSeq (sIf (mB (m2 fLt (mVar 1) (mF fLen (mCons (mVar 0) mNil)))) (sRet (m2 fIx (mVar 0) (mVar 1))) sNext) (sRet (mC (.int 0))))
noncomputable def e_x_law_at : FE := ⟨"_law_at", 1, 2, runD 2 m_x_law_at 2⟩
noncomputable def g_x_law_at : Gm := { N := ["_law_script", "_law_k"], sc := defScope s_x_law_at, T := [], X := ["len"], C := [], k := 0, st := fun _ => true, E := [], I := [], Q := [] }
theorem v_x_law_at_1 : varB g_x_law_at 1 "_law_k" = true := by decide +kernel
theorem v_x_law_at_0 : varB g_x_law_at 0 "_law_script" = true := by decide +kernel
theorem c_x_law_at {G : Gd} (gr : g_x_law_at.Gr G) : CSs G g_x_law_at (defBody s_x_law_at) m_x_law_at := (css_cons (cs_if (ct_cmp o_lt rfl (ce_v v_x_law_at_1) (ce_bn gr b_len boot_len (by decide +kernel) (ca_cons rfl (ce_v v_x_law_at_0) ca_nil))) (css_one (cs_ret (ce_ix rfl (ce_v v_x_law_at_0) (ce_v v_x_law_at_1)))) css_nil) (css_one (cs_ret ce_int)))
theorem sc_x_law_at : FnScope g_x_law_at.N ["_law_script", "_law_k"] (defScope s_x_law_at) := ⟨rfl, rfl, rfl, by decide +kernel, rfl, by decide +kernel, by decide +kernel⟩
abbrev s_x_law_mix : Stmt := topS 41
noncomputable def m_x_law_mix : Sl → RS := (sSeq (sSet 2 (m2 fIx (mFr (mLst (mCons (mC (.int 48271)) (mCons (mC (.int 69621)) (mCons (mC (.int 16807)) (mCons (mC (.int 40692)) (mCons (mC (.int 30269)) (mCons (mC (.int 62089)) (mCons (mC (.int 45991)) mNil))))))))) (m2 fMod (mVar 1) (mC (.int 7))))) (sSeq (sSet 3 (m2 fMod (m2 fMul (m2 fAdd (m2 fAdd (m2 fMod (mVar 0) (mC (.int 2147483647))) (m2 fMul (m2 fMul (mC (.int 97)) (mVar 1)) (mVar 1))) (mC (.int 11))) (mVar 2)) (mC (.int 2147483629)))) (sRet (m2 fMod (m2 fMul (mVar 3) (mVar 3)) (mC (.int 1999999973))))))
noncomputable def e_x_law_mix : FE := ⟨"_law_mix", 1, 2, runD 4 m_x_law_mix 2⟩
noncomputable def g_x_law_mix : Gm := { N := ["_law_cell", "_law_k", "_law_factor", "_law_number_here"], sc := defScope s_x_law_mix, T := [], X := [], C := [], k := 0, st := fun _ => true, E := [], I := [], Q := [] }
theorem v_x_law_mix_1 : varB g_x_law_mix 1 "_law_k" = true := by decide +kernel
theorem v_x_law_mix_0 : varB g_x_law_mix 0 "_law_cell" = true := by decide +kernel
theorem v_x_law_mix_2 : varB g_x_law_mix 2 "_law_factor" = true := by decide +kernel
theorem v_x_law_mix_3 : varB g_x_law_mix 3 "_law_number_here" = true := by decide +kernel
theorem w_x_law_mix_2 : stB g_x_law_mix 2 "_law_factor" = true := by decide +kernel
theorem w_x_law_mix_3 : stB g_x_law_mix 3 "_law_number_here" = true := by decide +kernel
theorem c_x_law_mix {G : Gd} (gr : g_x_law_mix.Gr G) : CSs G g_x_law_mix (defBody s_x_law_mix) m_x_law_mix := (css_cons (cs_s w_x_law_mix_2 (by decide +kernel) (ce_ix rfl (ce_of_co (co_lst (ca_cons rfl ce_int (ca_cons rfl ce_int (ca_cons rfl ce_int (ca_cons rfl ce_int (ca_cons rfl ce_int (ca_cons rfl ce_int (ca_cons rfl ce_int ca_nil))))))))) (ce_bin o_mod (ce_v v_x_law_mix_1) ce_int))) (css_cons (cs_s w_x_law_mix_3 (by decide +kernel) (ce_bin o_mod (ce_bin o_mul (ce_bin o_add (ce_bin o_add (ce_bin o_mod (ce_v v_x_law_mix_0) ce_int) (ce_bin o_mul (ce_bin o_mul ce_int (ce_v v_x_law_mix_1)) (ce_v v_x_law_mix_1))) ce_int) (ce_v v_x_law_mix_2)) ce_int)) (css_one (cs_ret (ce_bin o_mod (ce_bin o_mul (ce_v v_x_law_mix_3) (ce_v v_x_law_mix_3)) ce_int)))))
theorem sc_x_law_mix : FnScope g_x_law_mix.N ["_law_cell", "_law_k"] (defScope s_x_law_mix) := ⟨rfl, rfl, rfl, by decide +kernel, rfl, by decide +kernel, by decide +kernel⟩
abbrev s_x_law_names : Stmt := topS 42
noncomputable def l_x_law_names_0 : Sl → R D := (m2 fIx (mVar 2) (m2 fMod (m2 fAdd (m2 fDiv (mVar 3) (m2 fAdd (mVar 5) (mC (.int 1)))) (m2 fMul (mVar 5) (mVar 5))) (mC (.int 26))))
noncomputable def l_x_law_names_1 : Sl → R D := (mSl (mVar 4) mNoP (mP (m2 fAdd (mVar 6) (mC (.int 1)))))
noncomputable def l_x_law_names_2 : Sl → R D := (m2 fAdd (m2 fIx (mVar 2) (m2 fMod (m2 fAdd (m2 fDiv (mVar 3) (mC (.int 24))) (mVar 6)) (mC (.int 26)))) (mSl (mVar 4) mNoP (mP (mVar 7))))
noncomputable def l_x_law_names_3 : Sl → R D := (m2 fIx (mVar 2) (m2 fMod (m2 fAdd (m2 fDiv (mVar 3) (mC (.int 200))) (mVar 6)) (mC (.int 26))))
noncomputable def l_x_law_names_4 : Sl → R D := (m2 fAdd (m2 fAdd (mSl (mVar 4) mNoP (mP (mVar 8))) (mVar 10)) (mSl (mVar 4) (mP (mVar 8)) (mP (mVar 7))))
noncomputable def m_x_law_names : Sl → RS := (sSeq (sSet 2 (mC (.str "abcdefghijklmnopqrstuvwxyz"))) (sSeq (sSet 3 (mFr (mCall e_x_law_mix.fn (mCons (mVar 0) (mCons (mC (.int 0)) mNil))))) (sSeq (sSet 4 (mS1 fJoin (mC (.str "")) (mFr (mLc (mRg1 (mC (.int 8))) [5] (put 5) mYes l_x_law_names_0)))) (sSeq (sIf (mAnd (mB (m2 fEq (m2 fMod (mVar 3) (mC (.int 3))) (mC (.int 0)))) (mB (m2 fLt (mVar 1) (mC (.int 9))))) (sRetO (mLc (mRg1 (mVar 1)) [6] (put 6) mYes l_x_law_names_1)) sNext) (sSeq (sIf (mB (m2 fEq (m2 fMod (mVar 3) (mC (.int 3))) (mC (.int 1)))) (sSeq (sSet 7 (m2 fMod (m2 fDiv (mVar 3) (mC (.int 3))) (mC (.int 8)))) (sRetO (mLc (mRg1 (mVar 1)) [6] (put 6) mYes l_x_law_names_2))) sNext) (sSeq (sSet 7 (m2 fMod (m2 fDiv (mVar 3) (mC (.int 3))) (mC (.int 8)))) (sSeq (sSet 8 (m2 fMod (m2 fDiv (mVar 3) (mC (.int 24))) (m2 fAdd (mVar 7) (mC (.int 1))))) (sSeq (sSet 9 (mFr (mLc (mRg1 (mVar 1)) [6] (put 6) mYes l_x_law_names_3))) (sRetO (mLc (mIt (mVar 9)) [10] (put 10) mYes l_x_law_names_4))))))))))
noncomputable def e_x_law_names : FE := ⟨"_law_names", 2, 2, runD 11 m_x_law_names 2⟩
noncomputable def g_x_law_names : Gm := { N := ["_law_cell", "_law_many", "_law_letters", "_law_number_here", "_law_tail", "_law_j", "_law_k", "_law_size", "_law_at_here", "_law_signs", "_law_sign"], sc := defScope s_x_law_names, T := [e_x_law_mix], X := ["range"], C := [], k := 1, st := fun _ => true, E := [], I := [], Q := [] }
theorem v_x_law_names_0 : varB g_x_law_names 0 "_law_cell" = true := by decide +kernel
theorem v_x_law_names_3 : varB g_x_law_names 3 "_law_number_here" = true := by decide +kernel
theorem v_x_law_names_1 : varB g_x_law_names 1 "_law_many" = true := by decide +kernel
theorem v_x_law_names_7 : varB g_x_law_names 7 "_law_size" = true := by decide +kernel
theorem v_x_law_names_9 : varB g_x_law_names 9 "_law_signs" = true := by decide +kernel
theorem w_x_law_names_2 : stB g_x_law_names 2 "_law_letters" = true := by decide +kernel
theorem w_x_law_names_3 : stB g_x_law_names 3 "_law_number_here" = true := by decide +kernel
theorem w_x_law_names_4 : stB g_x_law_names 4 "_law_tail" = true := by decide +kernel
theorem w_x_law_names_7 : stB g_x_law_names 7 "_law_size" = true := by decide +kernel
theorem w_x_law_names_8 : stB g_x_law_names 8 "_law_at_here" = true := by decide +kernel
theorem w_x_law_names_9 : stB g_x_law_names 9 "_law_signs" = true := by decide +kernel
theorem c_x_law_names {G : Gd} (gr : g_x_law_names.Gr G) : CSs G g_x_law_names (defBody s_x_law_names) m_x_law_names := (css_cons (cs_s w_x_law_names_2 (by decide +kernel) ce_str) (css_cons (cs_s w_x_law_names_3 (by decide +kernel) (ce_of_co (co_cn (e := e_x_law_mix) gr (.head _) (by decide +kernel) (ca_cons rfl (ce_v v_x_law_names_0) (ca_cons rfl ce_int ca_nil))))) (css_cons (cs_s w_x_law_names_4 (by decide +kernel) (ce_join (by decide +kernel) ce_str (ce_of_co (co_lc (own := [("_law_j", 5)]) (ci_r1 gr (by decide +kernel) ce_int) (by decide +kernel) (by decide) (cg_n (by decide +kernel)) cts_nil (ce_ix rfl (ce_v (by decide +kernel)) (ce_bin o_mod (ce_bin o_add (ce_bin o_div (ce_v (by decide +kernel)) (ce_bin o_add (ce_v (by decide +kernel)) ce_int)) (ce_bin o_mul (ce_v (by decide +kernel)) (ce_v (by decide +kernel)))) ce_int)) rfl)))) (css_cons (cs_if (CW.ct (cw_and (ct_cmp o_eq rfl (ce_bin o_mod (ce_v v_x_law_names_3) ce_int) ce_int) (cw_and1 (ct_cmp o_lt rfl (ce_v v_x_law_names_1) ce_int)))) (css_one (cs_retO (co_lc (own := [("_law_k", 6)]) (ci_r1 gr (by decide +kernel) (ce_v v_x_law_names_1)) (by decide +kernel) (by decide) (cg_n (by decide +kernel)) cts_nil (ce_sl (ce_v (by decide +kernel)) cp_none (cp_some (ce_bin o_add (ce_v (by decide +kernel)) ce_int))) rfl))) css_nil) (css_cons (cs_if (ct_cmp o_eq rfl (ce_bin o_mod (ce_v v_x_law_names_3) ce_int) ce_int) (css_cons (cs_s w_x_law_names_7 (by decide +kernel) (ce_bin o_mod (ce_bin o_div (ce_v v_x_law_names_3) ce_int) ce_int)) (css_one (cs_retO (co_lc (own := [("_law_k", 6)]) (ci_r1 gr (by decide +kernel) (ce_v v_x_law_names_1)) (by decide +kernel) (by decide) (cg_n (by decide +kernel)) cts_nil (ce_bin o_add (ce_ix rfl (ce_v (by decide +kernel)) (ce_bin o_mod (ce_bin o_add (ce_bin o_div (ce_v (by decide +kernel)) ce_int) (ce_v (by decide +kernel))) ce_int)) (ce_sl (ce_v (by decide +kernel)) cp_none (cp_some (ce_v (by decide +kernel))))) rfl)))) css_nil) (css_cons (cs_s w_x_law_names_7 (by decide +kernel) (ce_bin o_mod (ce_bin o_div (ce_v v_x_law_names_3) ce_int) ce_int)) (css_cons (cs_s w_x_law_names_8 (by decide +kernel) (ce_bin o_mod (ce_bin o_div (ce_v v_x_law_names_3) ce_int) (ce_bin o_add (ce_v v_x_law_names_7) ce_int))) (css_cons (cs_lcV w_x_law_names_9 (by decide +kernel) (own := [("_law_k", 6)]) (ci_r1 gr (by decide +kernel) (ce_v v_x_law_names_1)) (by decide +kernel) (by decide) (cg_n (by decide +kernel)) cts_nil (ce_ix rfl (ce_v (by decide +kernel)) (ce_bin o_mod (ce_bin o_add (ce_bin o_div (ce_v (by decide +kernel)) ce_int) (ce_v (by decide +kernel))) ce_int)) rfl) (css_one (cs_retO (co_lc (own := [("_law_sign", 10)]) (ci_val (ce_v v_x_law_names_9)) (by decide +kernel) (by decide) (cg_n (by decide +kernel)) cts_nil (ce_bin o_add (ce_bin o_add (ce_sl (ce_v (by decide +kernel)) cp_none (cp_some (ce_v (by decide +kernel)))) (ce_v (by decide +kernel))) (ce_sl (ce_v (by decide +kernel)) (cp_some (ce_v (by decide +kernel))) (cp_some (ce_v (by decide +kernel))))) rfl)))))))))))
theorem sc_x_law_names : FnScope g_x_law_names.N ["_law_cell", "_law_many"] (defScope s_x_law_names) := ⟨rfl, rfl, rfl, by decide +kernel, rfl, by decide +kernel, by decide +kernel⟩
abbrev s_x_law_number : Stmt := topS 43
noncomputable def m_x_law_number : Sl → RS := (sRet (m2 fIx (mFr (mLst (mCons (m2 fMod (mVar 0) (mC (.int 8))) (mCons (m2 fMod (mVar 0) (mC (.int 3000))) (mCons (m2 fMod (mVar 1) (m2 fPow (mC (.int 10)) (mC (.int 12)))) (mCons (m2 fSub (m2 fPow (mC (.int 10)) (mC (.int 12))) (mC (.int 1))) mNil)))))) (m2 fMod (m2 fDiv (mVar 0) (mC (.int 3000))) (mC (.int 4)))))
noncomputable def e_x_law_number : FE := ⟨"_law_number", 1, 2, runD 2 m_x_law_number 2⟩
noncomputable def g_x_law_number : Gm := { N := ["_law_m", "_law_cell"], sc := defScope s_x_law_number, T := [], X := [], C := [], k := 0, st := fun _ => true, E := [], I := [], Q := [] }
theorem v_x_law_number_1 : varB g_x_law_number 1 "_law_cell" = true := by decide +kernel
theorem v_x_law_number_0 : varB g_x_law_number 0 "_law_m" = true := by decide +kernel
theorem c_x_law_number {G : Gd} (gr : g_x_law_number.Gr G) : CSs G g_x_law_number (defBody s_x_law_number) m_x_law_number := (css_one (cs_ret (ce_ix rfl (ce_of_co (co_lst (ca_cons rfl (ce_bin o_mod (ce_v v_x_law_number_0) ce_int) (ca_cons rfl (ce_bin o_mod (ce_v v_x_law_number_0) ce_int) (ca_cons rfl (ce_bin o_mod (ce_v v_x_law_number_1) (ce_bin o_pow ce_int ce_int)) (ca_cons rfl (ce_bin o_sub (ce_bin o_pow ce_int ce_int) ce_int) ca_nil)))))) (ce_bin o_mod (ce_bin o_div (ce_v v_x_law_number_0) ce_int) ce_int))))
theorem sc_x_law_number : FnScope g_x_law_number.N ["_law_m", "_law_cell"] (defScope s_x_law_number) := ⟨rfl, rfl, rfl, by decide +kernel, rfl, by decide +kernel, by decide +kernel⟩
abbrev s_x_law_some_lines : Stmt := topS 44
noncomputable def b_x_law_some_lines_0 : Sl → RS := (sSeq (sSet 6 (mFr (mCall e_x_law_mix.fn (mCons (mFr (mCall e_x_law_at.fn (mCons (mVar 0) (mCons (m2 fAdd (mVar 1) (mVar 5)) mNil)))) (mCons (m2 fAdd (mC (.int 5)) (mVar 5)) mNil))))) (sSeq (sSet 7 (mFr (mCall e_x_law_number.fn (mCons (m2 fDiv (mVar 6) (mC (.int 9))) (mCons (mFr (mCall e_x_law_at.fn (mCons (mVar 0) (mCons (m2 fAdd (mVar 1) (mVar 5)) mNil)))) mNil))))) (sApp 4 (mV (mTup (mCons (m2 fIx (mVar 2) (m2 fMod (mVar 6) (mF fLen (mCons (mVar 2) mNil)))) (mCons (mVar 7) mNil)))))))
noncomputable def m_x_law_some_lines : Sl → RS := (sSeq (sSet 3 (mFr (mCall e_x_law_mix.fn (mCons (mFr (mCall e_x_law_at.fn (mCons (mVar 0) (mCons (mVar 1) mNil)))) (mCons (mC (.int 4)) mNil))))) (sSeq (sSetO 4 (mLst mNil)) (sSeq (sFor (mRg1 (m2 fAdd (mC (.int 1)) (m2 fMod (mVar 3) (mC (.int 8))))) (put 5) b_x_law_some_lines_0) (sFrz 4 (sRet (mF fTuple (mCons (mVar 4) mNil)))))))
noncomputable def e_x_law_some_lines : FE := ⟨"_law_some_lines", 2, 3, runD 8 m_x_law_some_lines 3⟩
noncomputable def g_x_law_some_lines : Gm := { N := ["_law_script", "_law_at_here", "_law_names_here", "_law_m", "_law_lines", "_law_k", "_law_n", "_law_money"], sc := defScope s_x_law_some_lines, T := [e_x_law_mix, e_x_law_at, e_x_law_number], X := ["range", "len", "tuple"], C := [], k := 1, st := fun _ => true, E := [], I := [], Q := [] }
theorem v_x_law_some_lines_1 : varB g_x_law_some_lines 1 "_law_at_here" = true := by decide +kernel
theorem v_x_law_some_lines_0 : varB g_x_law_some_lines 0 "_law_script" = true := by decide +kernel
theorem v_x_law_some_lines_3 : varB g_x_law_some_lines 3 "_law_m" = true := by decide +kernel
theorem v_x_law_some_lines_5 : varB g_x_law_some_lines 5 "_law_k" = true := by decide +kernel
theorem v_x_law_some_lines_6 : varB g_x_law_some_lines 6 "_law_n" = true := by decide +kernel
theorem v_x_law_some_lines_7 : varB g_x_law_some_lines 7 "_law_money" = true := by decide +kernel
theorem v_x_law_some_lines_2 : varB g_x_law_some_lines 2 "_law_names_here" = true := by decide +kernel
theorem v_x_law_some_lines_4 : varB g_x_law_some_lines 4 "_law_lines" = true := by decide +kernel
theorem w_x_law_some_lines_3 : stB g_x_law_some_lines 3 "_law_m" = true := by decide +kernel
theorem w_x_law_some_lines_4 : stB g_x_law_some_lines 4 "_law_lines" = true := by decide +kernel
theorem w_x_law_some_lines_5 : stB g_x_law_some_lines 5 "_law_k" = true := by decide +kernel
theorem w_x_law_some_lines_6 : stB g_x_law_some_lines 6 "_law_n" = true := by decide +kernel
theorem w_x_law_some_lines_7 : stB g_x_law_some_lines 7 "_law_money" = true := by decide +kernel
theorem c_x_law_some_lines {G : Gd} (gr : g_x_law_some_lines.Gr G) : CSs G g_x_law_some_lines (defBody s_x_law_some_lines) m_x_law_some_lines := (css_cons (cs_s w_x_law_some_lines_3 (by decide +kernel) (ce_of_co (co_cn (e := e_x_law_mix) gr (.head _) (by decide +kernel) (ca_cons rfl (ce_of_co (co_cn (e := e_x_law_at) gr (.tail _ (.head _)) (by decide +kernel) (ca_cons rfl (ce_v v_x_law_some_lines_0) (ca_cons rfl (ce_v v_x_law_some_lines_1) ca_nil)))) (ca_cons rfl ce_int ca_nil))))) (css_cons (cs_so w_x_law_some_lines_4 (by decide +kernel) (co_lst ca_nil)) (css_cons (cs_for rfl (ci_r1 gr (by decide +kernel) (ce_bin o_add ce_int (ce_bin o_mod (ce_v v_x_law_some_lines_3) ce_int))) (cg_n w_x_law_some_lines_5) (css_cons (cs_s w_x_law_some_lines_6 (by decide +kernel) (ce_of_co (co_cn (e := e_x_law_mix) gr (.head _) (by decide +kernel) (ca_cons rfl (ce_of_co (co_cn (e := e_x_law_at) gr (.tail _ (.head _)) (by decide +kernel) (ca_cons rfl (ce_v v_x_law_some_lines_0) (ca_cons rfl (ce_bin o_add (ce_v v_x_law_some_lines_1) (ce_v v_x_law_some_lines_5)) ca_nil)))) (ca_cons rfl (ce_bin o_add ce_int (ce_v v_x_law_some_lines_5)) ca_nil))))) (css_cons (cs_s w_x_law_some_lines_7 (by decide +kernel) (ce_of_co (co_cn (e := e_x_law_number) gr (.tail _ (.tail _ (.head _))) (by decide +kernel) (ca_cons rfl (ce_bin o_div (ce_v v_x_law_some_lines_6) ce_int) (ca_cons rfl (ce_of_co (co_cn (e := e_x_law_at) gr (.tail _ (.head _)) (by decide +kernel) (ca_cons rfl (ce_v v_x_law_some_lines_0) (ca_cons rfl (ce_bin o_add (ce_v v_x_law_some_lines_1) (ce_v v_x_law_some_lines_5)) ca_nil)))) ca_nil))))) (css_one (cs_app (by decide +kernel) (co_of_ce (ce_tup (ca_cons rfl (ce_ix rfl (ce_v v_x_law_some_lines_2) (ce_bin o_mod (ce_v v_x_law_some_lines_6) (ce_bn gr b_len boot_len (by decide +kernel) (ca_cons rfl (ce_v v_x_law_some_lines_2) ca_nil)))) (ca_cons rfl (ce_v v_x_law_some_lines_7) ca_nil))))))))) (css_one (cs_frz 4 (cs_ret (ce_tn gr b_tuple boot_tuple (by decide +kernel) (ca_cons rfl (ce_v v_x_law_some_lines_4) ca_nil))))))))
theorem sc_x_law_some_lines : FnScope g_x_law_some_lines.N ["_law_script", "_law_at_here", "_law_names_here"] (defScope s_x_law_some_lines) := ⟨rfl, rfl, rfl, by decide +kernel, rfl, by decide +kernel, by decide +kernel⟩
abbrev s_x_law_deed : Stmt := topS 45
noncomputable def l_x_law_deed_0 : Sl → R D := (mVar 8)
noncomputable def l_x_law_deed_1 : Sl → R D := (mVar 8)
noncomputable def l_x_law_deed_2 : Sl → R D := (mVar 8)
noncomputable def m_x_law_deed : Sl → RS := (sSeq (sSet 2 (mFr (mCall e_x_law_at.fn (mCons (mVar 0) (mCons (mVar 1) mNil))))) (sSeq (sSet 3 (mFr (mCall e_x_law_mix.fn (mCons (mVar 2) (mCons (mC (.int 1)) mNil))))) (sSeq (sSet 4 (m2 fAdd (mFr (mCall e_x_law_names.fn (mCons (mVar 2) (mCons (mC (.int 4)) mNil)))) (mSl (mFr (mCall e_x_law_names.fn (mCons (mFr (mCall e_x_law_at.fn (mCons (mVar 0) (mCons (m2 fAdd (mVar 1) (mC (.int 1))) mNil)))) (mCons (mC (.int 8)) mNil)))) (mP (mC (.int 1))) mNoP))) (sSeq (sSet 5 (m2 fIx (mVar 4) (m2 fMod (m2 fDiv (mVar 3) (mC (.int 7))) (mF fLen (mCons (mVar 4) mNil))))) (sSeq (sSet 6 (m2 fIx (mVar 4) (m2 fMod (m2 fDiv (mVar 3) (mC (.int 80))) (mF fLen (mCons (mVar 4) mNil))))) (sSeq (sSet 7 (m2 fIx (mVar 4) (m2 fMod (m2 fDiv (mVar 3) (mC (.int 900))) (mF fLen (mCons (mVar 4) mNil))))) (sSeq (sIf (mB (m2 fEq (mVar 7) (mVar 6))) (sSet 7 (m2 fIx (mFr (mLc (mIt (mVar 4)) [8] (put 8) (mB (m2 fNe (mVar 8) (mVar 6))) l_x_law_deed_0)) (mC (.int 0)))) sNext) (sSeq (sSet 9 (m2 fIx (mFr (mLc (mIt (mVar 4)) [8] (put 8) (mB (m2 fNe (mVar 8) (mVar 5))) l_x_law_deed_1)) (m2 fMod (m2 fDiv (mVar 3) (mC (.int 40))) (mC (.int 2))))) (sSeq (sSet 10 (mF fMin (mCons (m2 fSub (m2 fPow (mC (.int 10)) (mC (.int 12))) (mC (.int 2))) (mCons (mFr (mCall e_x_law_number.fn (mCons (mFr (mCall e_x_law_mix.fn (mCons (mVar 2) (mCons (mC (.int 2)) mNil)))) (mCons (mVar 2) mNil)))) mNil)))) (sSeq (sSet 11 (mFr (mCall e_x_law_mix.fn (mCons (mFr (mCall e_x_law_at.fn (mCons (mVar 0) (mCons (m2 fAdd (mVar 1) (mC (.int 1))) mNil)))) (mCons (mC (.int 3)) mNil))))) (sSeq (sSet 12 (mF fMax (mCons (mC (.int 1)) (mCons (mFr (mCall e_x_law_number.fn (mCons (mVar 11) (mCons (mFr (mCall e_x_law_at.fn (mCons (mVar 0) (mCons (m2 fAdd (mVar 1) (mC (.int 1))) mNil)))) mNil)))) mNil)))) (sSeq (sSet 13 (m2 fIx (mFr (mLst (mCons (mC (.str "buy")) (mCons (mC (.str "spend")) (mCons (mC (.str "give")) (mCons (mC (.str "change")) (mCons (mC (.str "lend")) (mCons (mC (.str "back")) (mCons (mC (.str "fix")) mNil))))))))) (m2 fMod (mVar 3) (mC (.int 7))))) (sSeq (sIf (mB (m2 fEq (mVar 13) (mC (.str "buy")))) (sRet (mTup (mCons (mVar 13) (mCons (mVar 5) (mCons (mVar 10) (mCons (mVar 6) (mCons (mFr (mCall e_x_law_some_lines.fn (mCons (mVar 0) (mCons (m2 fAdd (mVar 1) (mC (.int 2))) (mCons (mVar 4) mNil))))) mNil))))))) sNext) (sSeq (sIf (mB (m2 fEq (mVar 13) (mC (.str "spend")))) (sSeq (sSet 14 (mFr (mLc (mEn (mVar 4)) [15, 8] (putTup 2 (putCons (put 15) (putCons (put 8) putNil))) (mB (m2 fNin (mVar 8) (mSl (mVar 4) mNoP (mP (mVar 15))))) l_x_law_deed_2))) (sSeq (sSet 16 (mSl (mSl (mVar 14) (mP (m2 fMod (m2 fDiv (mVar 11) (mC (.int 7))) (mC (.int 3)))) mNoP) mNoP (mP (m2 fMod (m2 fDiv (mVar 11) (mC (.int 21))) (mC (.int 9)))))) (sRet (mTup (mCons (mVar 13) (mCons (mVar 5) (mCons (mVar 10) (mCons (mVar 6) (mCons (mVar 12) (mCons (mF fTuple (mCons (mVar 16) mNil)) mNil)))))))))) sNext) (sSeq (sIf (mB (m2 fEq (mVar 13) (mC (.str "lend")))) (sSeq (sSet 17 (m2 fAdd (m2 fAdd (mVar 10) (mC (.int 1))) (m2 fIx (mFr (mLst (mCons (mC (.int 0)) (mCons (m2 fMod (mVar 11) (mC (.int 50))) (mCons (mVar 11) mNil))))) (m2 fMod (m2 fDiv (mVar 11) (mC (.int 50))) (mC (.int 3)))))) (sRet (mTup (mCons (mVar 13) (mCons (mVar 5) (mCons (mVar 10) (mCons (mVar 6) (mCons (mVar 7) (mCons (mVar 12) (mCons (mF fMin (mCons (m2 fSub (m2 fPow (mC (.int 10)) (mC (.int 12))) (mC (.int 1))) (mCons (mVar 17) mNil))) mNil)))))))))) sNext) (sSeq (sIf (mB (m2 fEq (mVar 13) (mC (.str "back")))) (sRet (mTup (mCons (mVar 13) (mCons (mVar 5) (mCons (mVar 10) (mCons (mVar 9) mNil)))))) sNext) (sSeq (sIf (mB (m2 fEq (mVar 13) (mC (.str "fix")))) (sRet (mTup (mCons (mVar 13) (mCons (mVar 5) (mCons (mVar 9) (mCons (mFr (mCall e_x_law_some_lines.fn (mCons (mVar 0) (mCons (m2 fAdd (mVar 1) (mC (.int 2))) (mCons (mVar 4) mNil))))) mNil)))))) sNext) (sRet (mTup (mCons (mVar 13) (mCons (mVar 5) (mCons (mVar 10) (mCons (mVar 6) (mCons (mVar 7) (mCons (mVar 12) mNil)))))))))))))))))))))))))
noncomputable def e_x_law_deed : FE := ⟨"_law_deed", 3, 2, runD 18 m_x_law_deed 2⟩
noncomputable def g_x_law_deed : Gm := { N := ["_law_script", "_law_at_here", "_law_cell", "_law_m", "_law_names_here", "_law_ref", "_law_purse", "_law_other", "_law_name", "_law_of", "_law_day", "_law_n", "_law_points", "_law_word", "_law_unlike", "_law_k", "_law_first", "_law_end"], sc := defScope s_x_law_deed, T := [e_x_law_at, e_x_law_mix, e_x_law_names, e_x_law_number, e_x_law_some_lines], X := ["len", "min", "max", "enumerate", "tuple"], C := [], k := 2, st := fun _ => true, E := [], I := [], Q := [] }
theorem v_x_law_deed_1 : varB g_x_law_deed 1 "_law_at_here" = true := by decide +kernel
theorem v_x_law_deed_0 : varB g_x_law_deed 0 "_law_script" = true := by decide +kernel
theorem v_x_law_deed_2 : varB g_x_law_deed 2 "_law_cell" = true := by decide +kernel
theorem v_x_law_deed_4 : varB g_x_law_deed 4 "_law_names_here" = true := by decide +kernel
theorem v_x_law_deed_3 : varB g_x_law_deed 3 "_law_m" = true := by decide +kernel
theorem v_x_law_deed_7 : varB g_x_law_deed 7 "_law_other" = true := by decide +kernel
theorem v_x_law_deed_6 : varB g_x_law_deed 6 "_law_purse" = true := by decide +kernel
theorem v_x_law_deed_11 : varB g_x_law_deed 11 "_law_n" = true := by decide +kernel
theorem v_x_law_deed_13 : varB g_x_law_deed 13 "_law_word" = true := by decide +kernel
theorem v_x_law_deed_10 : varB g_x_law_deed 10 "_law_day" = true := by decide +kernel
theorem v_x_law_deed_5 : varB g_x_law_deed 5 "_law_ref" = true := by decide +kernel
theorem v_x_law_deed_14 : varB g_x_law_deed 14 "_law_unlike" = true := by decide +kernel
theorem v_x_law_deed_16 : varB g_x_law_deed 16 "_law_first" = true := by decide +kernel
theorem v_x_law_deed_12 : varB g_x_law_deed 12 "_law_points" = true := by decide +kernel
theorem v_x_law_deed_17 : varB g_x_law_deed 17 "_law_end" = true := by decide +kernel
theorem v_x_law_deed_9 : varB g_x_law_deed 9 "_law_of" = true := by decide +kernel
theorem w_x_law_deed_2 : stB g_x_law_deed 2 "_law_cell" = true := by decide +kernel
theorem w_x_law_deed_3 : stB g_x_law_deed 3 "_law_m" = true := by decide +kernel
theorem w_x_law_deed_4 : stB g_x_law_deed 4 "_law_names_here" = true := by decide +kernel
theorem w_x_law_deed_5 : stB g_x_law_deed 5 "_law_ref" = true := by decide +kernel
theorem w_x_law_deed_6 : stB g_x_law_deed 6 "_law_purse" = true := by decide +kernel
theorem w_x_law_deed_7 : stB g_x_law_deed 7 "_law_other" = true := by decide +kernel
theorem w_x_law_deed_9 : stB g_x_law_deed 9 "_law_of" = true := by decide +kernel
theorem w_x_law_deed_10 : stB g_x_law_deed 10 "_law_day" = true := by decide +kernel
theorem w_x_law_deed_11 : stB g_x_law_deed 11 "_law_n" = true := by decide +kernel
theorem w_x_law_deed_12 : stB g_x_law_deed 12 "_law_points" = true := by decide +kernel
theorem w_x_law_deed_13 : stB g_x_law_deed 13 "_law_word" = true := by decide +kernel
theorem w_x_law_deed_14 : stB g_x_law_deed 14 "_law_unlike" = true := by decide +kernel
theorem w_x_law_deed_16 : stB g_x_law_deed 16 "_law_first" = true := by decide +kernel
theorem w_x_law_deed_17 : stB g_x_law_deed 17 "_law_end" = true := by decide +kernel
theorem c_x_law_deed {G : Gd} (gr : g_x_law_deed.Gr G) : CSs G g_x_law_deed (defBody s_x_law_deed) m_x_law_deed := (css_cons (cs_s w_x_law_deed_2 (by decide +kernel) (ce_of_co (co_cn (e := e_x_law_at) gr (.head _) (by decide +kernel) (ca_cons rfl (ce_v v_x_law_deed_0) (ca_cons rfl (ce_v v_x_law_deed_1) ca_nil))))) (css_cons (cs_s w_x_law_deed_3 (by decide +kernel) (ce_of_co (co_cn (e := e_x_law_mix) gr (.tail _ (.head _)) (by decide +kernel) (ca_cons rfl (ce_v v_x_law_deed_2) (ca_cons rfl ce_int ca_nil))))) (css_cons (cs_s w_x_law_deed_4 (by decide +kernel) (ce_bin o_add (ce_of_co (co_cn (e := e_x_law_names) gr (.tail _ (.tail _ (.head _))) (by decide +kernel) (ca_cons rfl (ce_v v_x_law_deed_2) (ca_cons rfl ce_int ca_nil)))) (ce_sl (ce_of_co (co_cn (e := e_x_law_names) gr (.tail _ (.tail _ (.head _))) (by decide +kernel) (ca_cons rfl (ce_of_co (co_cn (e := e_x_law_at) gr (.head _) (by decide +kernel) (ca_cons rfl (ce_v v_x_law_deed_0) (ca_cons rfl (ce_bin o_add (ce_v v_x_law_deed_1) ce_int) ca_nil)))) (ca_cons rfl ce_int ca_nil)))) (cp_some ce_int) cp_none))) (css_cons (cs_s w_x_law_deed_5 (by decide +kernel) (ce_ix rfl (ce_v v_x_law_deed_4) (ce_bin o_mod (ce_bin o_div (ce_v v_x_law_deed_3) ce_int) (ce_bn gr b_len boot_len (by decide +kernel) (ca_cons rfl (ce_v v_x_law_deed_4) ca_nil))))) (css_cons (cs_s w_x_law_deed_6 (by decide +kernel) (ce_ix rfl (ce_v v_x_law_deed_4) (ce_bin o_mod (ce_bin o_div (ce_v v_x_law_deed_3) ce_int) (ce_bn gr b_len boot_len (by decide +kernel) (ca_cons rfl (ce_v v_x_law_deed_4) ca_nil))))) (css_cons (cs_s w_x_law_deed_7 (by decide +kernel) (ce_ix rfl (ce_v v_x_law_deed_4) (ce_bin o_mod (ce_bin o_div (ce_v v_x_law_deed_3) ce_int) (ce_bn gr b_len boot_len (by decide +kernel) (ca_cons rfl (ce_v v_x_law_deed_4) ca_nil))))) (css_cons (cs_if (ct_cmp o_eq rfl (ce_v v_x_law_deed_7) (ce_v v_x_law_deed_6)) (css_one (cs_s w_x_law_deed_7 (by decide +kernel) (ce_ix rfl (ce_of_co (co_lc (own := [("_law_name", 8)]) (ci_val (ce_v v_x_law_deed_4)) (by decide +kernel) (by decide) (cg_n (by decide +kernel)) (cts_one (ct_cmp o_ne rfl (ce_v (by decide +kernel)) (ce_v (by decide +kernel)))) (ce_v (by decide +kernel)) rfl)) ce_int))) css_nil) (css_cons (cs_s w_x_law_deed_9 (by decide +kernel) (ce_ix rfl (ce_of_co (co_lc (own := [("_law_name", 8)]) (ci_val (ce_v v_x_law_deed_4)) (by decide +kernel) (by decide) (cg_n (by decide +kernel)) (cts_one (ct_cmp o_ne rfl (ce_v (by decide +kernel)) (ce_v (by decide +kernel)))) (ce_v (by decide +kernel)) rfl)) (ce_bin o_mod (ce_bin o_div (ce_v v_x_law_deed_3) ce_int) ce_int))) (css_cons (cs_s w_x_law_deed_10 (by decide +kernel) (ce_bn gr b_min boot_min (by decide +kernel) (ca_cons rfl (ce_bin o_sub (ce_bin o_pow ce_int ce_int) ce_int) (ca_cons rfl (ce_of_co (co_cn (e := e_x_law_number) gr (.tail _ (.tail _ (.tail _ (.head _)))) (by decide +kernel) (ca_cons rfl (ce_of_co (co_cn (e := e_x_law_mix) gr (.tail _ (.head _)) (by decide +kernel) (ca_cons rfl (ce_v v_x_law_deed_2) (ca_cons rfl ce_int ca_nil)))) (ca_cons rfl (ce_v v_x_law_deed_2) ca_nil)))) ca_nil)))) (css_cons (cs_s w_x_law_deed_11 (by decide +kernel) (ce_of_co (co_cn (e := e_x_law_mix) gr (.tail _ (.head _)) (by decide +kernel) (ca_cons rfl (ce_of_co (co_cn (e := e_x_law_at) gr (.head _) (by decide +kernel) (ca_cons rfl (ce_v v_x_law_deed_0) (ca_cons rfl (ce_bin o_add (ce_v v_x_law_deed_1) ce_int) ca_nil)))) (ca_cons rfl ce_int ca_nil))))) (css_cons (cs_s w_x_law_deed_12 (by decide +kernel) (ce_bn gr b_max boot_max (by decide +kernel) (ca_cons rfl ce_int (ca_cons rfl (ce_of_co (co_cn (e := e_x_law_number) gr (.tail _ (.tail _ (.tail _ (.head _)))) (by decide +kernel) (ca_cons rfl (ce_v v_x_law_deed_11) (ca_cons rfl (ce_of_co (co_cn (e := e_x_law_at) gr (.head _) (by decide +kernel) (ca_cons rfl (ce_v v_x_law_deed_0) (ca_cons rfl (ce_bin o_add (ce_v v_x_law_deed_1) ce_int) ca_nil)))) ca_nil)))) ca_nil)))) (css_cons (cs_s w_x_law_deed_13 (by decide +kernel) (ce_ix rfl (ce_of_co (co_lst (ca_cons rfl ce_str (ca_cons rfl ce_str (ca_cons rfl ce_str (ca_cons rfl ce_str (ca_cons rfl ce_str (ca_cons rfl ce_str (ca_cons rfl ce_str ca_nil))))))))) (ce_bin o_mod (ce_v v_x_law_deed_3) ce_int))) (css_cons (cs_if (ct_cmp o_eq rfl (ce_v v_x_law_deed_13) ce_str) (css_one (cs_ret (ce_tup (ca_cons rfl (ce_v v_x_law_deed_13) (ca_cons rfl (ce_v v_x_law_deed_5) (ca_cons rfl (ce_v v_x_law_deed_10) (ca_cons rfl (ce_v v_x_law_deed_6) (ca_cons rfl (ce_of_co (co_cn (e := e_x_law_some_lines) gr (.tail _ (.tail _ (.tail _ (.tail _ (.head _))))) (by decide +kernel) (ca_cons rfl (ce_v v_x_law_deed_0) (ca_cons rfl (ce_bin o_add (ce_v v_x_law_deed_1) ce_int) (ca_cons rfl (ce_v v_x_law_deed_4) ca_nil))))) ca_nil)))))))) css_nil) (css_cons (cs_if (ct_cmp o_eq rfl (ce_v v_x_law_deed_13) ce_str) (css_cons (cs_lcV w_x_law_deed_14 (by decide +kernel) (own := [("_law_k", 15), ("_law_name", 8)]) (ci_en gr (by decide +kernel) (ce_v v_x_law_deed_4)) (by decide +kernel) (by decide) (cg_tup rfl (cgs_cons rfl (cg_n (by decide +kernel)) (cgs_cons rfl (cg_n (by decide +kernel)) cgs_nil))) (cts_one (ct_cmp o_nin rfl (ce_v (by decide +kernel)) (ce_sl (ce_v (by decide +kernel)) cp_none (cp_some (ce_v (by decide +kernel)))))) (ce_v (by decide +kernel)) rfl) (css_cons (cs_s w_x_law_deed_16 (by decide +kernel) (ce_sl (ce_sl (ce_v v_x_law_deed_14) (cp_some (ce_bin o_mod (ce_bin o_div (ce_v v_x_law_deed_11) ce_int) ce_int)) cp_none) cp_none (cp_some (ce_bin o_mod (ce_bin o_div (ce_v v_x_law_deed_11) ce_int) ce_int)))) (css_one (cs_ret (ce_tup (ca_cons rfl (ce_v v_x_law_deed_13) (ca_cons rfl (ce_v v_x_law_deed_5) (ca_cons rfl (ce_v v_x_law_deed_10) (ca_cons rfl (ce_v v_x_law_deed_6) (ca_cons rfl (ce_v v_x_law_deed_12) (ca_cons rfl (ce_tn gr b_tuple boot_tuple (by decide +kernel) (ca_cons rfl (ce_v v_x_law_deed_16) ca_nil)) ca_nil))))))))))) css_nil) (css_cons (cs_if (ct_cmp o_eq rfl (ce_v v_x_law_deed_13) ce_str) (css_cons (cs_s w_x_law_deed_17 (by decide +kernel) (ce_bin o_add (ce_bin o_add (ce_v v_x_law_deed_10) ce_int) (ce_ix rfl (ce_of_co (co_lst (ca_cons rfl ce_int (ca_cons rfl (ce_bin o_mod (ce_v v_x_law_deed_11) ce_int) (ca_cons rfl (ce_v v_x_law_deed_11) ca_nil))))) (ce_bin o_mod (ce_bin o_div (ce_v v_x_law_deed_11) ce_int) ce_int)))) (css_one (cs_ret (ce_tup (ca_cons rfl (ce_v v_x_law_deed_13) (ca_cons rfl (ce_v v_x_law_deed_5) (ca_cons rfl (ce_v v_x_law_deed_10) (ca_cons rfl (ce_v v_x_law_deed_6) (ca_cons rfl (ce_v v_x_law_deed_7) (ca_cons rfl (ce_v v_x_law_deed_12) (ca_cons rfl (ce_bn gr b_min boot_min (by decide +kernel) (ca_cons rfl (ce_bin o_sub (ce_bin o_pow ce_int ce_int) ce_int) (ca_cons rfl (ce_v v_x_law_deed_17) ca_nil))) ca_nil))))))))))) css_nil) (css_cons (cs_if (ct_cmp o_eq rfl (ce_v v_x_law_deed_13) ce_str) (css_one (cs_ret (ce_tup (ca_cons rfl (ce_v v_x_law_deed_13) (ca_cons rfl (ce_v v_x_law_deed_5) (ca_cons rfl (ce_v v_x_law_deed_10) (ca_cons rfl (ce_v v_x_law_deed_9) ca_nil))))))) css_nil) (css_cons (cs_if (ct_cmp o_eq rfl (ce_v v_x_law_deed_13) ce_str) (css_one (cs_ret (ce_tup (ca_cons rfl (ce_v v_x_law_deed_13) (ca_cons rfl (ce_v v_x_law_deed_5) (ca_cons rfl (ce_v v_x_law_deed_9) (ca_cons rfl (ce_of_co (co_cn (e := e_x_law_some_lines) gr (.tail _ (.tail _ (.tail _ (.tail _ (.head _))))) (by decide +kernel) (ca_cons rfl (ce_v v_x_law_deed_0) (ca_cons rfl (ce_bin o_add (ce_v v_x_law_deed_1) ce_int) (ca_cons rfl (ce_v v_x_law_deed_4) ca_nil))))) ca_nil))))))) css_nil) (css_one (cs_ret (ce_tup (ca_cons rfl (ce_v v_x_law_deed_13) (ca_cons rfl (ce_v v_x_law_deed_5) (ca_cons rfl (ce_v v_x_law_deed_10) (ca_cons rfl (ce_v v_x_law_deed_6) (ca_cons rfl (ce_v v_x_law_deed_7) (ca_cons rfl (ce_v v_x_law_deed_12) ca_nil))))))))))))))))))))))))))
theorem sc_x_law_deed : FnScope g_x_law_deed.N ["_law_script", "_law_at_here"] (defScope s_x_law_deed) := ⟨rfl, rfl, rfl, by decide +kernel, rfl, by decide +kernel, by decide +kernel⟩
abbrev s_x_law_words : Stmt := topS 46
noncomputable def b_x_law_words_0 : Sl → RS := (sIf (mB (m1 (fIsi "tuple") (mVar 3))) (sFrz 1 (sSetO 1 (mV (m2 fAdd (mVar 1) (mFr (mLst (mCons (m2 fIx (mVar 3) (mC (.int 0))) (mCons (mF fStrX (mCons (m2 fIx (mVar 3) (mC (.int 1))) mNil)) mNil)))))))) (sApp 1 (mV (mVar 3))))
noncomputable def b_x_law_words_1 : Sl → RS := (sIf (mB (m1 (fIsi "tuple") (mVar 2))) (sFor (mIt (mVar 2)) (put 3) b_x_law_words_0) (sApp 1 (mV (mF fStrX (mCons (mVar 2) mNil)))))
noncomputable def m_x_law_words : Sl → RS := (sSeq (sSetO 1 (mLst mNil)) (sSeq (sFor (mIt (mVar 0)) (put 2) b_x_law_words_1) (sRetX 1)))
noncomputable def e_x_law_words : FE := ⟨"_law_words", 1, 1, runD 4 m_x_law_words 1⟩
noncomputable def g_x_law_words : Gm := { N := ["_law_deed_here", "_law_words_here", "_law_part", "_law_one"], sc := defScope s_x_law_words, T := [], X := ["isinstance", "tuple", "str"], C := [], k := 0, st := fun _ => true, E := [], I := [], Q := [] }
theorem v_x_law_words_0 : varB g_x_law_words 0 "_law_deed_here" = true := by decide +kernel
theorem v_x_law_words_2 : varB g_x_law_words 2 "_law_part" = true := by decide +kernel
theorem v_x_law_words_3 : varB g_x_law_words 3 "_law_one" = true := by decide +kernel
theorem v_x_law_words_1 : varB g_x_law_words 1 "_law_words_here" = true := by decide +kernel
theorem w_x_law_words_1 : stB g_x_law_words 1 "_law_words_here" = true := by decide +kernel
theorem w_x_law_words_2 : stB g_x_law_words 2 "_law_part" = true := by decide +kernel
theorem w_x_law_words_3 : stB g_x_law_words 3 "_law_one" = true := by decide +kernel
theorem c_x_law_words {G : Gd} (gr : g_x_law_words.Gr G) : CSs G g_x_law_words (defBody s_x_law_words) m_x_law_words := (css_cons (cs_so w_x_law_words_1 (by decide +kernel) (co_lst ca_nil)) (css_cons (cs_for rfl (ci_val (ce_v v_x_law_words_0)) (cg_n w_x_law_words_2) (css_one (cs_if (ct_val rfl (ce_isn gr boot_tuple (by decide +kernel) (ce_v v_x_law_words_2))) (css_one (cs_for rfl (ci_val (ce_v v_x_law_words_2)) (cg_n w_x_law_words_3) (css_one (cs_if (ct_val rfl (ce_isn gr boot_tuple (by decide +kernel) (ce_v v_x_law_words_3))) (css_one (cs_frz 1 (cs_so w_x_law_words_1 (by decide +kernel) (co_of_ce (ce_bin o_add (ce_v v_x_law_words_1) (ce_of_co (co_lst (ca_cons rfl (ce_ix rfl (ce_v v_x_law_words_3) ce_int) (ca_cons rfl (ce_tn gr b_strX boot_str (by decide +kernel) (ca_cons rfl (ce_ix rfl (ce_v v_x_law_words_3) ce_int) ca_nil)) ca_nil))))))))) (css_one (cs_app (by decide +kernel) (co_of_ce (ce_v v_x_law_words_3)))))))) (css_one (cs_app (by decide +kernel) (co_of_ce (ce_tn gr b_strX boot_str (by decide +kernel) (ca_cons rfl (ce_v v_x_law_words_2) ca_nil)))))))) (css_one (cs_retXn (by decide +kernel)))))
theorem sc_x_law_words : FnScope g_x_law_words.N ["_law_deed_here"] (defScope s_x_law_words) := ⟨rfl, rfl, rfl, by decide +kernel, rfl, by decide +kernel, by decide +kernel⟩
abbrev s_x_law_put : Stmt := topS 47
noncomputable def m_x_law_put : Sl → RS := (sRet (mS1 fJoin (mC (.str " ")) (m2 fAdd (m2 fAdd (mSl (mVar 0) mNoP (mP (mVar 1))) (mFr (mLst (mCons (mVar 2) mNil)))) (mSl (mVar 0) (mP (m2 fAdd (mVar 1) (mC (.int 1)))) mNoP))))
noncomputable def e_x_law_put : FE := ⟨"_law_put", 1, 3, runD 3 m_x_law_put 3⟩
noncomputable def g_x_law_put : Gm := { N := ["_law_words_here", "_law_at_here", "_law_word"], sc := defScope s_x_law_put, T := [], X := [], C := [], k := 0, st := fun _ => true, E := [], I := [], Q := [] }
theorem v_x_law_put_0 : varB g_x_law_put 0 "_law_words_here" = true := by decide +kernel
theorem v_x_law_put_1 : varB g_x_law_put 1 "_law_at_here" = true := by decide +kernel
theorem v_x_law_put_2 : varB g_x_law_put 2 "_law_word" = true := by decide +kernel
theorem c_x_law_put {G : Gd} (gr : g_x_law_put.Gr G) : CSs G g_x_law_put (defBody s_x_law_put) m_x_law_put := (css_one (cs_ret (ce_join (by decide +kernel) ce_str (ce_bin o_add (ce_bin o_add (ce_sl (ce_v v_x_law_put_0) cp_none (cp_some (ce_v v_x_law_put_1))) (ce_of_co (co_lst (ca_cons rfl (ce_v v_x_law_put_2) ca_nil)))) (ce_sl (ce_v v_x_law_put_0) (cp_some (ce_bin o_add (ce_v v_x_law_put_1) ce_int)) cp_none)))))
theorem sc_x_law_put : FnScope g_x_law_put.N ["_law_words_here", "_law_at_here", "_law_word"] (defScope s_x_law_put) := ⟨rfl, rfl, rfl, by decide +kernel, rfl, by decide +kernel, by decide +kernel⟩
abbrev s_x_law_no_deed : Stmt := topS 48
noncomputable def m_x_law_no_deed : Sl → RS := (sSeq (sIf (mAnd (mB (mVar 2)) (mB (m2 fIn (m2 fIx (mVar 0) (mC (.int 0))) (mTup (mCons (mC (.str "buy")) (mCons (mC (.str "fix")) mNil)))))) (sRet (mS1 fJoin (mC (.str " ")) (m2 fAdd (mSl (mVar 1) mNoP (mP (m2 fSub (mC (.int 4)) (mF fInt (mCons (m2 fEq (m2 fIx (mVar 0) (mC (.int 0))) (mC (.str "fix"))) mNil))))) (mFr (mRepL (mCons (mC (.str "tea")) (mCons (mC (.str "1")) mNil)) (mC (.int 9))))))) sNext) (sSeq (sIf (mB (m2 fEq (m2 fIx (mVar 0) (mC (.int 0))) (mC (.str "spend")))) (sRet (mS1 fJoin (mC (.str " ")) (m2 fAdd (mSl (mVar 1) mNoP (mP (mC (.int 5)))) (m2 fIx (mFr (mLst (mCons (mFr (mFO fListS (mCons (mC (.str "abcdefghi")) mNil))) (mCons (mFr (mLst (mCons (mC (.str "b")) (mCons (mC (.str "a")) (mCons (mC (.str "b")) mNil))))) mNil)))) (mF fInt (mCons (vNot (mVar 2)) mNil)))))) sNext) (sSeq (sIf (mB (m2 fEq (m2 fIx (mVar 0) (mC (.int 0))) (mC (.str "back")))) (sRetO (mCall e_x_law_put.fn (mCons (mVar 1) (mCons (mC (.int 3)) (mCons (m2 fIx (mVar 1) (mC (.int 1))) mNil))))) sNext) (sSeq (sIf (mB (m2 fEq (m2 fIx (mVar 0) (mC (.int 0))) (mC (.str "fix")))) (sRetO (mCall e_x_law_put.fn (mCons (mVar 1) (mCons (mC (.int 2)) (mCons (m2 fIx (mVar 1) (mC (.int 1))) mNil))))) sNext) (sSeq (sIf (mB (m2 fEq (m2 fIx (mVar 0) (mC (.int 0))) (mC (.str "buy")))) (sRet (mS1 fJoin (mC (.str " ")) (mSl (mVar 1) mNoP (mP (mC (.int 4)))))) sNext) (sRetO (mCall e_x_law_put.fn (mCons (mVar 1) (mCons (mC (.int 4)) (mCons (m2 fIx (mVar 1) (mC (.int 3))) mNil))))))))))
noncomputable def e_x_law_no_deed : FE := ⟨"_law_no_deed", 2, 3, runD 3 m_x_law_no_deed 3⟩
noncomputable def g_x_law_no_deed : Gm := { N := ["_law_deed_here", "_law_words_here", "_law_many"], sc := defScope s_x_law_no_deed, T := [e_x_law_put], X := ["int", "list"], C := [], k := 1, st := fun _ => true, E := [], I := [], Q := [] }
theorem v_x_law_no_deed_2 : varB g_x_law_no_deed 2 "_law_many" = true := by decide +kernel
theorem v_x_law_no_deed_0 : varB g_x_law_no_deed 0 "_law_deed_here" = true := by decide +kernel
theorem v_x_law_no_deed_1 : varB g_x_law_no_deed 1 "_law_words_here" = true := by decide +kernel
theorem c_x_law_no_deed {G : Gd} (gr : g_x_law_no_deed.Gr G) : CSs G g_x_law_no_deed (defBody s_x_law_no_deed) m_x_law_no_deed := (css_cons (cs_if (CW.ct (cw_and (ct_val rfl (ce_v v_x_law_no_deed_2)) (cw_and1 (ct_cmp o_in rfl (ce_ix rfl (ce_v v_x_law_no_deed_0) ce_int) (ce_tup (ca_cons rfl ce_str (ca_cons rfl ce_str ca_nil))))))) (css_one (cs_ret (ce_join (by decide +kernel) ce_str (ce_bin o_add (ce_sl (ce_v v_x_law_no_deed_1) cp_none (cp_some (ce_bin o_sub ce_int (ce_tn gr b_int boot_int (by decide +kernel) (ca_cons rfl (ce_cmp o_eq rfl (ce_ix rfl (ce_v v_x_law_no_deed_0) ce_int) ce_str) ca_nil))))) (ce_of_co (co_repL (ca_cons rfl ce_str (ca_cons rfl ce_str ca_nil)) ce_int)))))) css_nil) (css_cons (cs_if (ct_cmp o_eq rfl (ce_ix rfl (ce_v v_x_law_no_deed_0) ce_int) ce_str) (css_one (cs_ret (ce_join (by decide +kernel) ce_str (ce_bin o_add (ce_sl (ce_v v_x_law_no_deed_1) cp_none (cp_some ce_int)) (ce_ix rfl (ce_of_co (co_lst (ca_cons rfl (ce_of_co (co_tn gr b_listS boot_list (by decide +kernel) (ca_cons rfl ce_str ca_nil))) (ca_cons rfl (ce_of_co (co_lst (ca_cons rfl ce_str (ca_cons rfl ce_str (ca_cons rfl ce_str ca_nil))))) ca_nil)))) (ce_tn gr b_int boot_int (by decide +kernel) (ca_cons rfl (ce_not (ce_v v_x_law_no_deed_2)) ca_nil))))))) css_nil) (css_cons (cs_if (ct_cmp o_eq rfl (ce_ix rfl (ce_v v_x_law_no_deed_0) ce_int) ce_str) (css_one (cs_retO (co_cn (e := e_x_law_put) gr (.head _) (by decide +kernel) (ca_cons rfl (ce_v v_x_law_no_deed_1) (ca_cons rfl ce_int (ca_cons rfl (ce_ix rfl (ce_v v_x_law_no_deed_1) ce_int) ca_nil)))))) css_nil) (css_cons (cs_if (ct_cmp o_eq rfl (ce_ix rfl (ce_v v_x_law_no_deed_0) ce_int) ce_str) (css_one (cs_retO (co_cn (e := e_x_law_put) gr (.head _) (by decide +kernel) (ca_cons rfl (ce_v v_x_law_no_deed_1) (ca_cons rfl ce_int (ca_cons rfl (ce_ix rfl (ce_v v_x_law_no_deed_1) ce_int) ca_nil)))))) css_nil) (css_cons (cs_if (ct_cmp o_eq rfl (ce_ix rfl (ce_v v_x_law_no_deed_0) ce_int) ce_str) (css_one (cs_ret (ce_join (by decide +kernel) ce_str (ce_sl (ce_v v_x_law_no_deed_1) cp_none (cp_some ce_int))))) css_nil) (css_one (cs_retO (co_cn (e := e_x_law_put) gr (.head _) (by decide +kernel) (ca_cons rfl (ce_v v_x_law_no_deed_1) (ca_cons rfl ce_int (ca_cons rfl (ce_ix rfl (ce_v v_x_law_no_deed_1) ce_int) ca_nil)))))))))))
theorem sc_x_law_no_deed : FnScope g_x_law_no_deed.N ["_law_deed_here", "_law_words_here", "_law_many"] (defScope s_x_law_no_deed) := ⟨rfl, rfl, rfl, by decide +kernel, rfl, by decide +kernel, by decide +kernel⟩
abbrev s_x_law_spoiled : Stmt := topS 49
noncomputable def l_x_law_spoiled_0 : Sl → R D := (mVar 4)
noncomputable def l_x_law_spoiled_1 : Sl → R D := (mVar 4)
noncomputable def m_x_law_spoiled : Sl → RS := (sSeq (sSet 3 (mFr (mLc (mRg1 (mF fLen (mCons (mVar 1) mNil))) [4] (put 4) (mB (m2 fIn (m2 fIx (m2 fIx (mVar 1) (mVar 4)) (mC (.int 0))) (mC (.str "0123456789")))) l_x_law_spoiled_0))) (sSeq (sSet 5 (mFr (mLc (mRg2 (mC (.int 1)) (mF fLen (mCons (mVar 1) mNil))) [4] (put 4) (mB (m2 fNin (m2 fIx (m2 fIx (mVar 1) (mVar 4)) (mC (.int 0))) (mC (.str "0123456789")))) l_x_law_spoiled_1))) (sSeq (sSet 6 (m2 fMod (mVar 2) (mC (.int 9)))) (sSeq (sSet 2 (m2 fDiv (mVar 2) (mC (.int 9)))) (sSeq (sIf (mB (m2 fGt (mVar 6) (mC (.int 6)))) (sRetO (mCall e_x_law_no_deed.fn (mCons (mVar 0) (mCons (mVar 1) (mCons (m2 fEq (mVar 6) (mC (.int 8))) mNil))))) sNext) (sSeq (sIf (mB (m2 fEq (mVar 6) (mC (.int 0)))) (sSeq (sSet 7 (m2 fIx (mFr (mLst (mCons (m2 fAdd (mC (.str "0")) (m2 fIx (mVar 1) (m2 fIx (mVar 3) (mC (.int 0))))) (mCons (mC (.str "-1")) (mCons (mC (.str "+1")) (mCons (mC (.str "1.0")) (mCons (mC (.str "1000000000000")) (mCons (mC (.str "x")) (mCons (mC (.str "1e3")) (mCons (mC (.str "00")) (mCons (m2 fMulS (mC (.str "1")) (mC (.int 40))) (mCons (mC (.str "one")) mNil)))))))))))) (m2 fMod (mVar 2) (mC (.int 10))))) (sRetO (mCall e_x_law_put.fn (mCons (mVar 1) (mCons (m2 fIx (mVar 3) (m2 fMod (m2 fDiv (mVar 2) (mC (.int 10))) (mF fLen (mCons (mVar 3) mNil)))) (mCons (mVar 7) mNil)))))) sNext) (sSeq (sIf (mB (m2 fEq (mVar 6) (mC (.int 1)))) (sSeq (sSet 7 (m2 fIx (mFr (mLst (mCons (mC (.str "Ann")) (mCons (mC (.str "abcdefghi")) (mCons (mC (.str "an9")) (mCons (mC (.str "a.b")) (mCons (mC (.str "7")) (mCons (mC (.str "-")) (mCons (mC (.str "annA")) (mCons (mC (.str "0")) mNil)))))))))) (m2 fMod (mVar 2) (mC (.int 8))))) (sRetO (mCall e_x_law_put.fn (mCons (mVar 1) (mCons (m2 fIx (mVar 5) (m2 fMod (m2 fDiv (mVar 2) (mC (.int 8))) (mF fLen (mCons (mVar 5) mNil)))) (mCons (mVar 7) mNil)))))) sNext) (sSeq (sIf (mB (m2 fEq (mVar 6) (mC (.int 2)))) (sRetO (mCall e_x_law_put.fn (mCons (mVar 1) (mCons (mC (.int 0)) (mCons (m2 fIx (mFr (mLst (mCons (mC (.str "Buy")) (mCons (mC (.str "sell")) (mCons (mC (.str "buys")) (mCons (mC (.str "x")) (mCons (mC (.str "lends")) (mCons (mC (.str "7")) (mCons (mC (.str "BACK")) mNil))))))))) (m2 fMod (mVar 2) (mC (.int 7)))) mNil))))) sNext) (sSeq (sIf (mAnd (mB (m2 fEq (mVar 6) (mC (.int 3)))) (mOr (mB (m2 fNe (m2 fIx (mVar 0) (mC (.int 0))) (mC (.str "spend")))) (mB (m2 fEq (m2 fIx (mVar 0) (mC (.int 5))) (mTup mNil))))) (sRet (mS1 fJoin (mC (.str " ")) (mSl (mVar 1) mNoP (mP (m1 fNeg (mC (.int 1))))))) sNext) (sSeq (sIf (mAnd (mB (m2 fEq (mVar 6) (mC (.int 4)))) (mB (m2 fNe (m2 fIx (mVar 0) (mC (.int 0))) (mC (.str "spend"))))) (sRet (mS1 fJoin (mC (.str " ")) (m2 fAdd (mVar 1) (mFr (mLst (mCons (m2 fIx (mFr (mLst (mCons (mC (.str "zz")) (mCons (mC (.str "5")) mNil)))) (m2 fMod (mVar 2) (mC (.int 2)))) mNil)))))) sNext) (sSeq (sIf (mAnd (mB (m2 fEq (mVar 6) (mC (.int 5)))) (mB (m2 fIn (m2 fIx (mVar 0) (mC (.int 0))) (mTup (mCons (mC (.str "spend")) (mCons (mC (.str "give")) (mCons (mC (.str "change")) (mCons (mC (.str "lend")) mNil)))))))) (sSeq (sIf (mAnd (mB (m2 fEq (m2 fIx (mVar 0) (mC (.int 0))) (mC (.str "lend")))) (mB (m2 fEq (m2 fMod (mVar 2) (mC (.int 2))) (mC (.int 0))))) (sRetO (mCall e_x_law_put.fn (mCons (mVar 1) (mCons (mC (.int 6)) (mCons (m2 fIx (mVar 1) (mC (.int 2))) mNil))))) sNext) (sRetO (mCall e_x_law_put.fn (mCons (mVar 1) (mCons (m2 fAdd (mC (.int 4)) (mF fInt (mCons (m2 fNe (m2 fIx (mVar 0) (mC (.int 0))) (mC (.str "spend"))) mNil))) (mCons (mC (.str "0")) mNil)))))) sNext) (sSeq (sSet 8 (m2 fAdd (mC (.int 1)) (m2 fMod (mVar 2) (m2 fSub (mF fLen (mCons (mVar 1) mNil)) (mC (.int 1)))))) (sRet (m2 fAdd (m2 fAdd (mS1 fJoin (mC (.str " ")) (mSl (mVar 1) mNoP (mP (mVar 8)))) (m2 fIx (mFr (mLst (mCons (mC (.str "\n")) (mCons (mC (.str ",")) (mCons (mC (.str ".")) (mCons (mC (.str "/")) (mCons (mC (.str " \n")) (mCons (mC (.str "- ")) mNil)))))))) (m2 fMod (m2 fDiv (mVar 2) (mC (.int 50))) (mC (.int 6))))) (mS1 fJoin (mC (.str " ")) (mSl (mVar 1) (mP (mVar 8)) mNoP))))))))))))))))
noncomputable def e_x_law_spoiled : FE := ⟨"_law_spoiled", 3, 3, runD 9 m_x_law_spoiled 3⟩
noncomputable def g_x_law_spoiled : Gm := { N := ["_law_deed_here", "_law_words_here", "_law_m", "_law_numbers", "_law_k", "_law_names_here", "_law_way", "_law_bad", "_law_at_here"], sc := defScope s_x_law_spoiled, T := [e_x_law_no_deed, e_x_law_put], X := ["range", "len", "int"], C := [], k := 2, st := fun _ => true, E := [], I := [], Q := [] }
theorem v_x_law_spoiled_1 : varB g_x_law_spoiled 1 "_law_words_here" = true := by decide +kernel
theorem v_x_law_spoiled_2 : varB g_x_law_spoiled 2 "_law_m" = true := by decide +kernel
theorem v_x_law_spoiled_6 : varB g_x_law_spoiled 6 "_law_way" = true := by decide +kernel
theorem v_x_law_spoiled_0 : varB g_x_law_spoiled 0 "_law_deed_here" = true := by decide +kernel
theorem v_x_law_spoiled_3 : varB g_x_law_spoiled 3 "_law_numbers" = true := by decide +kernel
theorem v_x_law_spoiled_7 : varB g_x_law_spoiled 7 "_law_bad" = true := by decide +kernel
theorem v_x_law_spoiled_5 : varB g_x_law_spoiled 5 "_law_names_here" = true := by decide +kernel
theorem v_x_law_spoiled_8 : varB g_x_law_spoiled 8 "_law_at_here" = true := by decide +kernel
theorem w_x_law_spoiled_3 : stB g_x_law_spoiled 3 "_law_numbers" = true := by decide +kernel
theorem w_x_law_spoiled_5 : stB g_x_law_spoiled 5 "_law_names_here" = true := by decide +kernel
theorem w_x_law_spoiled_6 : stB g_x_law_spoiled 6 "_law_way" = true := by decide +kernel
theorem w_x_law_spoiled_2 : stB g_x_law_spoiled 2 "_law_m" = true := by decide +kernel
theorem w_x_law_spoiled_7 : stB g_x_law_spoiled 7 "_law_bad" = true := by decide +kernel
theorem w_x_law_spoiled_8 : stB g_x_law_spoiled 8 "_law_at_here" = true := by decide +kernel
theorem c_x_law_spoiled {G : Gd} (gr : g_x_law_spoiled.Gr G) : CSs G g_x_law_spoiled (defBody s_x_law_spoiled) m_x_law_spoiled := (css_cons (cs_lcV w_x_law_spoiled_3 (by decide +kernel) (own := [("_law_k", 4)]) (ci_r1 gr (by decide +kernel) (ce_bn gr b_len boot_len (by decide +kernel) (ca_cons rfl (ce_v v_x_law_spoiled_1) ca_nil))) (by decide +kernel) (by decide) (cg_n (by decide +kernel)) (cts_one (ct_cmp o_in rfl (ce_ix rfl (ce_ix rfl (ce_v (by decide +kernel)) (ce_v (by decide +kernel))) ce_int) ce_str)) (ce_v (by decide +kernel)) rfl) (css_cons (cs_lcV w_x_law_spoiled_5 (by decide +kernel) (own := [("_law_k", 4)]) (ci_r2 gr (by decide +kernel) ce_int (ce_bn gr b_len boot_len (by decide +kernel) (ca_cons rfl (ce_v v_x_law_spoiled_1) ca_nil))) (by decide +kernel) (by decide) (cg_n (by decide +kernel)) (cts_one (ct_cmp o_nin rfl (ce_ix rfl (ce_ix rfl (ce_v (by decide +kernel)) (ce_v (by decide +kernel))) ce_int) ce_str)) (ce_v (by decide +kernel)) rfl) (css_cons (cs_s w_x_law_spoiled_6 (by decide +kernel) (ce_bin o_mod (ce_v v_x_law_spoiled_2) ce_int)) (css_cons (cs_s w_x_law_spoiled_2 (by decide +kernel) (ce_bin o_div (ce_v v_x_law_spoiled_2) ce_int)) (css_cons (cs_if (ct_cmp o_gt rfl (ce_v v_x_law_spoiled_6) ce_int) (css_one (cs_retO (co_cn (e := e_x_law_no_deed) gr (.head _) (by decide +kernel) (ca_cons rfl (ce_v v_x_law_spoiled_0) (ca_cons rfl (ce_v v_x_law_spoiled_1) (ca_cons rfl (ce_cmp o_eq rfl (ce_v v_x_law_spoiled_6) ce_int) ca_nil)))))) css_nil) (css_cons (cs_if (ct_cmp o_eq rfl (ce_v v_x_law_spoiled_6) ce_int) (css_cons (cs_s w_x_law_spoiled_7 (by decide +kernel) (ce_ix rfl (ce_of_co (co_lst (ca_cons rfl (ce_bin o_add ce_str (ce_ix rfl (ce_v v_x_law_spoiled_1) (ce_ix rfl (ce_v v_x_law_spoiled_3) ce_int))) (ca_cons rfl ce_str (ca_cons rfl ce_str (ca_cons rfl ce_str (ca_cons rfl ce_str (ca_cons rfl ce_str (ca_cons rfl ce_str (ca_cons rfl ce_str (ca_cons rfl (ce_bin o_mulS ce_str ce_int) (ca_cons rfl ce_str ca_nil)))))))))))) (ce_bin o_mod (ce_v v_x_law_spoiled_2) ce_int))) (css_one (cs_retO (co_cn (e := e_x_law_put) gr (.tail _ (.head _)) (by decide +kernel) (ca_cons rfl (ce_v v_x_law_spoiled_1) (ca_cons rfl (ce_ix rfl (ce_v v_x_law_spoiled_3) (ce_bin o_mod (ce_bin o_div (ce_v v_x_law_spoiled_2) ce_int) (ce_bn gr b_len boot_len (by decide +kernel) (ca_cons rfl (ce_v v_x_law_spoiled_3) ca_nil)))) (ca_cons rfl (ce_v v_x_law_spoiled_7) ca_nil))))))) css_nil) (css_cons (cs_if (ct_cmp o_eq rfl (ce_v v_x_law_spoiled_6) ce_int) (css_cons (cs_s w_x_law_spoiled_7 (by decide +kernel) (ce_ix rfl (ce_of_co (co_lst (ca_cons rfl ce_str (ca_cons rfl ce_str (ca_cons rfl ce_str (ca_cons rfl ce_str (ca_cons rfl ce_str (ca_cons rfl ce_str (ca_cons rfl ce_str (ca_cons rfl ce_str ca_nil)))))))))) (ce_bin o_mod (ce_v v_x_law_spoiled_2) ce_int))) (css_one (cs_retO (co_cn (e := e_x_law_put) gr (.tail _ (.head _)) (by decide +kernel) (ca_cons rfl (ce_v v_x_law_spoiled_1) (ca_cons rfl (ce_ix rfl (ce_v v_x_law_spoiled_5) (ce_bin o_mod (ce_bin o_div (ce_v v_x_law_spoiled_2) ce_int) (ce_bn gr b_len boot_len (by decide +kernel) (ca_cons rfl (ce_v v_x_law_spoiled_5) ca_nil)))) (ca_cons rfl (ce_v v_x_law_spoiled_7) ca_nil))))))) css_nil) (css_cons (cs_if (ct_cmp o_eq rfl (ce_v v_x_law_spoiled_6) ce_int) (css_one (cs_retO (co_cn (e := e_x_law_put) gr (.tail _ (.head _)) (by decide +kernel) (ca_cons rfl (ce_v v_x_law_spoiled_1) (ca_cons rfl ce_int (ca_cons rfl (ce_ix rfl (ce_of_co (co_lst (ca_cons rfl ce_str (ca_cons rfl ce_str (ca_cons rfl ce_str (ca_cons rfl ce_str (ca_cons rfl ce_str (ca_cons rfl ce_str (ca_cons rfl ce_str ca_nil))))))))) (ce_bin o_mod (ce_v v_x_law_spoiled_2) ce_int)) ca_nil)))))) css_nil) (css_cons (cs_if (CW.ct (cw_and (ct_cmp o_eq rfl (ce_v v_x_law_spoiled_6) ce_int) (cw_and1 (CW.ct (cw_or (ct_cmp o_ne rfl (ce_ix rfl (ce_v v_x_law_spoiled_0) ce_int) ce_str) (cw_or1 (ct_cmp o_eq rfl (ce_ix rfl (ce_v v_x_law_spoiled_0) ce_int) (ce_tup ca_nil)))))))) (css_one (cs_ret (ce_join (by decide +kernel) ce_str (ce_sl (ce_v v_x_law_spoiled_1) cp_none (cp_some (ce_neg ce_int)))))) css_nil) (css_cons (cs_if (CW.ct (cw_and (ct_cmp o_eq rfl (ce_v v_x_law_spoiled_6) ce_int) (cw_and1 (ct_cmp o_ne rfl (ce_ix rfl (ce_v v_x_law_spoiled_0) ce_int) ce_str)))) (css_one (cs_ret (ce_join (by decide +kernel) ce_str (ce_bin o_add (ce_v v_x_law_spoiled_1) (ce_of_co (co_lst (ca_cons rfl (ce_ix rfl (ce_of_co (co_lst (ca_cons rfl ce_str (ca_cons rfl ce_str ca_nil)))) (ce_bin o_mod (ce_v v_x_law_spoiled_2) ce_int)) ca_nil))))))) css_nil) (css_cons (cs_if (CW.ct (cw_and (ct_cmp o_eq rfl (ce_v v_x_law_spoiled_6) ce_int) (cw_and1 (ct_cmp o_in rfl (ce_ix rfl (ce_v v_x_law_spoiled_0) ce_int) (ce_tup (ca_cons rfl ce_str (ca_cons rfl ce_str (ca_cons rfl ce_str (ca_cons rfl ce_str ca_nil))))))))) (css_cons (cs_if (CW.ct (cw_and (ct_cmp o_eq rfl (ce_ix rfl (ce_v v_x_law_spoiled_0) ce_int) ce_str) (cw_and1 (ct_cmp o_eq rfl (ce_bin o_mod (ce_v v_x_law_spoiled_2) ce_int) ce_int)))) (css_one (cs_retO (co_cn (e := e_x_law_put) gr (.tail _ (.head _)) (by decide +kernel) (ca_cons rfl (ce_v v_x_law_spoiled_1) (ca_cons rfl ce_int (ca_cons rfl (ce_ix rfl (ce_v v_x_law_spoiled_1) ce_int) ca_nil)))))) css_nil) (css_one (cs_retO (co_cn (e := e_x_law_put) gr (.tail _ (.head _)) (by decide +kernel) (ca_cons rfl (ce_v v_x_law_spoiled_1) (ca_cons rfl (ce_bin o_add ce_int (ce_tn gr b_int boot_int (by decide +kernel) (ca_cons rfl (ce_cmp o_ne rfl (ce_ix rfl (ce_v v_x_law_spoiled_0) ce_int) ce_str) ca_nil))) (ca_cons rfl ce_str ca_nil))))))) css_nil) (css_cons (cs_s w_x_law_spoiled_8 (by decide +kernel) (ce_bin o_add ce_int (ce_bin o_mod (ce_v v_x_law_spoiled_2) (ce_bin o_sub (ce_bn gr b_len boot_len (by decide +kernel) (ca_cons rfl (ce_v v_x_law_spoiled_1) ca_nil)) ce_int)))) (css_one (cs_ret (ce_bin o_add (ce_bin o_add (ce_join (by decide +kernel) ce_str (ce_sl (ce_v v_x_law_spoiled_1) cp_none (cp_some (ce_v v_x_law_spoiled_8)))) (ce_ix rfl (ce_of_co (co_lst (ca_cons rfl ce_str (ca_cons rfl ce_str (ca_cons rfl ce_str (ca_cons rfl ce_str (ca_cons rfl ce_str (ca_cons rfl ce_str ca_nil)))))))) (ce_bin o_mod (ce_bin o_div (ce_v v_x_law_spoiled_2) ce_int) ce_int))) (ce_join (by decide +kernel) ce_str (ce_sl (ce_v v_x_law_spoiled_1) (cp_some (ce_v v_x_law_spoiled_8)) cp_none)))))))))))))))))
theorem sc_x_law_spoiled : FnScope g_x_law_spoiled.N ["_law_deed_here", "_law_words_here", "_law_m"] (defScope s_x_law_spoiled) := ⟨rfl, rfl, rfl, by decide +kernel, rfl, by decide +kernel, by decide +kernel⟩
abbrev s_x_law_refused : Stmt := topS 50
noncomputable def m_x_law_refused : Sl → RS := (sSeq (sSetO 1 (mLst mNil)) (sSeq (sTry mTab (sDrop (mFr (mCall e_read_deed.fn (mCons (mVar 0) mNil)))) [⟨"PurseError", some 2, (sSeq (sSetO 1 (mLst (mCons (m1 (fIsE mTab ["BadDeed"]) (mVar 2)) (mCons (m1 (fIsE mTab ["ValueError"]) (mVar 2)) mNil)))) (sApp 1 (mV (m1 (fIsE mTab ["BadBook", "BadHouse", "BadText", "NoDeed", "NoRate", "NotOver", "TooFew", "Twice", "WrongDay"]) (mVar 2)))))⟩]) (sRet (vE (m2 fEq (mVar 1) (mFr (mLst (mCons (mC (.bl true)) (mCons (mC (.bl true)) (mCons (mC (.bl false)) mNil))))))))))
noncomputable def e_x_law_refused : FE := ⟨"_law_refused", 9, 1, runD 3 m_x_law_refused 1⟩
noncomputable def g_x_law_refused : Gm := { N := ["_law_text", "_law_flags", "error"], sc := defScope s_x_law_refused, T := [e_read_deed], X := ["isinstance"], C := [], k := 8, st := fun _ => true, E := [], I := [], Q := [], M := mTab, Ec := ["BadDeed"] }
theorem v_x_law_refused_0 : varB g_x_law_refused 0 "_law_text" = true := by decide +kernel
theorem v_x_law_refused_1 : varB g_x_law_refused 1 "_law_flags" = true := by decide +kernel
theorem w_x_law_refused_1 : stB g_x_law_refused 1 "_law_flags" = true := by decide +kernel
theorem c_x_law_refused {G : Gd} (gr : g_x_law_refused.Gr G) : CSs G g_x_law_refused (defBody s_x_law_refused) m_x_law_refused := (css_cons (cs_so w_x_law_refused_1 (by decide +kernel) (co_lst ca_nil)) (css_cons (cs_try gr rfl (by decide +kernel) (css_one (cs_expr rfl (ce_of_co (co_cn (e := e_read_deed) gr (.head _) (by decide +kernel) (ca_cons rfl (ce_v v_x_law_refused_0) ca_nil))))) (.as (by decide +kernel) (css_cons (cs_so (by decide +kernel) (by decide +kernel) (co_lst (ca_cons rfl (ce_isE gr.hot rfl (by decide +kernel) (ce_v (by decide +kernel))) (ca_cons rfl (ce_isE gr.hot rfl (by decide +kernel) (ce_v (by decide +kernel))) ca_nil)))) (css_one (cs_app (by decide +kernel) (co_of_ce (ce_isT gr.hot rfl (by decide +kernel) (ce_v (by decide +kernel))))))) .nil)) (css_one (cs_ret (ce_view (ce_cmp o_eq rfl (ce_v v_x_law_refused_1) (ce_of_co (co_lst (ca_cons rfl ce_bl (ca_cons rfl ce_bl (ca_cons rfl ce_bl ca_nil)))))))))))
theorem sc_x_law_refused : FnScope g_x_law_refused.N ["_law_text"] (defScope s_x_law_refused) := ⟨rfl, rfl, rfl, by decide +kernel, rfl, by decide +kernel, by decide +kernel⟩
abbrev s_law : Stmt := topS 51
noncomputable def b_law_0 : Sl → RS := (sSeq (sSet 5 (mFr (mCall e_x_law_mix.fn (mCons (mFr (mCall e_x_law_at.fn (mCons (mVar 0) (mCons (m2 fAdd (mC (.int 52)) (mVar 4)) mNil)))) (mCons (m2 fAdd (mVar 1) (mVar 4)) mNil))))) (sIf (mOr (mNot (mB (mFr (mCall e_x_law_refused.fn (mCons (mFr (mCall e_x_law_spoiled.fn (mCons (mVar 2) (mCons (mVar 3) (mCons (mVar 5) mNil))))) mNil))))) (mNot (mB (mFr (mCall e_x_law_refused.fn (mCons (mS1 fJoin (mC (.str " ")) (mSl (mVar 3) mNoP (mP (m2 fMod (mVar 5) (mC (.int 4)))))) mNil)))))) (sRet (mC (.bl false))) sNext))
noncomputable def b_law_1 : Sl → RS := (sSeq (sSet 2 (mFr (mCall e_x_law_deed.fn (mCons (mVar 0) (mCons (mVar 1) mNil))))) (sSeq (sSet 3 (mFr (mCall e_x_law_words.fn (mCons (mVar 2) mNil)))) (sSeq (sIf (mB (m2 fNe (mFr (mCall e_read_deed.fn (mCons (mS1 fJoin (mC (.str " ")) (mVar 3)) mNil))) (mVar 2))) (sRet (mC (.bl false))) sNext) (sSeq (sFor (mRg1 (mC (.int 4))) (put 4) b_law_0) (sIf (mB (m2 fNe (mFr (mCall e_read_deed.fn (mCons (mS1 fJoin (mC (.str " ")) (mVar 3)) mNil))) (mVar 2))) (sRet (mC (.bl false))) sNext)))))
noncomputable def m_law : Sl → RS := (sSeq (sFor (mIt (mTup (mCons (mC (.int 0)) (mCons (mC (.int 13)) (mCons (mC (.int 26)) (mCons (mC (.int 39)) mNil)))))) (put 1) b_law_1) (sRet (mC (.bl true))))
noncomputable def e_law : FE := ⟨"law", 10, 1, runD 6 m_law 1⟩
noncomputable def g_law : Gm := { N := ["_law_script", "_law_at_here", "_law_deed_here", "_law_words_here", "_law_k", "_law_m"], sc := defScope s_law, T := [e_x_law_deed, e_x_law_words, e_read_deed, e_x_law_mix, e_x_law_at, e_x_law_refused, e_x_law_spoiled], X := ["range"], C := [], k := 9, st := fun _ => true, E := [], I := [], Q := [] }
theorem v_law_1 : varB g_law 1 "_law_at_here" = true := by decide +kernel
theorem v_law_0 : varB g_law 0 "_law_script" = true := by decide +kernel
theorem v_law_2 : varB g_law 2 "_law_deed_here" = true := by decide +kernel
theorem v_law_3 : varB g_law 3 "_law_words_here" = true := by decide +kernel
theorem v_law_4 : varB g_law 4 "_law_k" = true := by decide +kernel
theorem v_law_5 : varB g_law 5 "_law_m" = true := by decide +kernel
theorem w_law_1 : stB g_law 1 "_law_at_here" = true := by decide +kernel
theorem w_law_2 : stB g_law 2 "_law_deed_here" = true := by decide +kernel
theorem w_law_3 : stB g_law 3 "_law_words_here" = true := by decide +kernel
theorem w_law_4 : stB g_law 4 "_law_k" = true := by decide +kernel
theorem w_law_5 : stB g_law 5 "_law_m" = true := by decide +kernel
theorem c_law {G : Gd} (gr : g_law.Gr G) : CSs G g_law (defBody s_law) m_law := (css_cons (cs_for rfl (ci_val (ce_tup (ca_cons rfl ce_int (ca_cons rfl ce_int (ca_cons rfl ce_int (ca_cons rfl ce_int ca_nil)))))) (cg_n w_law_1) (css_cons (cs_s w_law_2 (by decide +kernel) (ce_of_co (co_cn (e := e_x_law_deed) gr (.head _) (by decide +kernel) (ca_cons rfl (ce_v v_law_0) (ca_cons rfl (ce_v v_law_1) ca_nil))))) (css_cons (cs_s w_law_3 (by decide +kernel) (ce_of_co (co_cn (e := e_x_law_words) gr (.tail _ (.head _)) (by decide +kernel) (ca_cons rfl (ce_v v_law_2) ca_nil)))) (css_cons (cs_if (ct_cmp o_ne rfl (ce_of_co (co_cn (e := e_read_deed) gr (.tail _ (.tail _ (.head _))) (by decide +kernel) (ca_cons rfl (ce_join (by decide +kernel) ce_str (ce_v v_law_3)) ca_nil))) (ce_v v_law_2)) (css_one (cs_ret ce_bl)) css_nil) (css_cons (cs_for rfl (ci_r1 gr (by decide +kernel) ce_int) (cg_n w_law_4) (css_cons (cs_s w_law_5 (by decide +kernel) (ce_of_co (co_cn (e := e_x_law_mix) gr (.tail _ (.tail _ (.tail _ (.head _)))) (by decide +kernel) (ca_cons rfl (ce_of_co (co_cn (e := e_x_law_at) gr (.tail _ (.tail _ (.tail _ (.tail _ (.head _))))) (by decide +kernel) (ca_cons rfl (ce_v v_law_0) (ca_cons rfl (ce_bin o_add ce_int (ce_v v_law_4)) ca_nil)))) (ca_cons rfl (ce_bin o_add (ce_v v_law_1) (ce_v v_law_4)) ca_nil))))) (css_one (cs_if (CW.ct (cw_or (ct_not (ct_val rfl (ce_of_co (co_cn (e := e_x_law_refused) gr (.tail _ (.tail _ (.tail _ (.tail _ (.tail _ (.head _)))))) (by decide +kernel) (ca_cons rfl (ce_of_co (co_cn (e := e_x_law_spoiled) gr (.tail _ (.tail _ (.tail _ (.tail _ (.tail _ (.tail _ (.head _))))))) (by decide +kernel) (ca_cons rfl (ce_v v_law_2) (ca_cons rfl (ce_v v_law_3) (ca_cons rfl (ce_v v_law_5) ca_nil))))) ca_nil))))) (cw_or1 (ct_not (ct_val rfl (ce_of_co (co_cn (e := e_x_law_refused) gr (.tail _ (.tail _ (.tail _ (.tail _ (.tail _ (.head _)))))) (by decide +kernel) (ca_cons rfl (ce_join (by decide +kernel) ce_str (ce_sl (ce_v v_law_3) cp_none (cp_some (ce_bin o_mod (ce_v v_law_5) ce_int)))) ca_nil)))))))) (css_one (cs_ret ce_bl)) css_nil)))) (css_one (cs_if (ct_cmp o_ne rfl (ce_of_co (co_cn (e := e_read_deed) gr (.tail _ (.tail _ (.head _))) (by decide +kernel) (ca_cons rfl (ce_join (by decide +kernel) ce_str (ce_v v_law_3)) ca_nil))) (ce_v v_law_2)) (css_one (cs_ret ce_bl)) css_nil))))))) (css_one (cs_ret ce_bl)))
theorem sc_law : FnScope g_law.N ["_law_script"] (defScope s_law) := ⟨rfl, rfl, rfl, by decide +kernel, rfl, by decide +kernel, by decide +kernel⟩
end K11
end
section
set_option Elab.async false
set_option linter.all false
set_option maxRecDepth 100000
set_option maxHeartbeats 4000000
namespace K11
open Eng PySem L2
@[simp] theorem ap_mLcE {it : Sl → R (List D)} {vs : List Nat} {tg : D → Sl → Option Sl} {el : Sl → R D} {L : Sl} : mLcE it vs tg el L = (it L).bind fun ds => if ds.length ≤ 16777216 ∧ okW L vs = true then (match lcGo tg mYes el (wipeL L vs) ds with | .ok es => .ok (.ml (es.map .v)) | .exc c => .exc c | .stuck => .stuck) else .stuck := by rfl
def mixF : List Int := [48271, 69621, 16807, 40692, 30269, 62089, 45991]
def mixN (c k : Int) : Int := (c % 2147483647 + 97 * k * k + 11) * nth mixF (k % 7) % 2147483629
def mixZ (c k : Int) : Int := mixN c k * mixN c k % 1999999973
theorem mix_lo (c k : Int) : 0 ≤ mixZ c k ∧ mixZ c k < 1999999973 := by unfold mixZ; omega
theorem mix_ok (c k : Int) (h : -1000000 ≤ k ∧ k ≤ 1000000) : e_x_law_mix.fn [.int c, .int k] = .ok (.v (.int (mixZ c k))) := by
  have e1 : atI ([.int 48271, .int 69621, .int 16807, .int 40692, .int 30269, .int 62089, .int 45991] : List D) (k % 7) = some (.int (nth mixF (k % 7))) := fIx_ints (ns := mixF) rfl (by omega) (by simp only [mixF, List.length_cons, List.length_nil]; omega)
  have h2 : 0 ≤ nth mixF (k % 7) ∧ nth mixF (k % 7) ≤ 69621 := nth_all (P := fun n => 0 ≤ n ∧ n ≤ 69621) (by decide) (by decide)
  have h3 : 0 ≤ mixN c k ∧ mixN c k < 2147483629 := by unfold mixN; omega
  have h4 : mixN c k = (c % 2147483647 + 97 * k * k + 11) * nth mixF (k % 7) % 2147483629 := rfl
  unfold mixZ
  simp only [e_x_law_mix, runD, m_x_law_mix, sl0]
  simp [e1, fMul_ii (Or.inr (show -18446744073709551616 < k ∧ k < 18446744073709551616 by omega)), fMul_ii (Or.inr (show -18446744073709551616 < nth mixF (k % 7) ∧ nth mixF (k % 7) < 18446744073709551616 by omega)), fMul_ii (Or.inr (show -18446744073709551616 < mixN c k ∧ mixN c k < 18446744073709551616 by omega)), ← h4]
def isName (z : Str) : Bool := (decide (1 ≤ z.length) && decide (z.length ≤ 8)) && z.cps.toList.all fun c => decide (c ∈ ("abcdefghijklmnopqrstuvwxyz" : Str).cps.toList)
theorem is_name_ok (z : Str) (h : z.length ≤ 16777216) : e_is_name.fn [.str z] = .ok (.v (.bl (isName z))) := by
  have e1 : lcGo (put 1) mYes l_is_name_0 [some (.v (.str z)), none] (signs z) = .ok ((z.cps.toList.map fun c => decide (c ∈ ("abcdefghijklmnopqrstuvwxyz" : Str).cps.toList)).map D.bl) := by
    rw [List.map_map]
    refine lcGo_map (f := fun c => D.str ⟨#[c]⟩) (g := D.bl ∘ fun c => decide (c ∈ ("abcdefghijklmnopqrstuvwxyz" : Str).cps.toList)) fun c _ => ⟨[some (.v (.str z)), some (.v (.str ⟨#[c]⟩))], rfl, ?_⟩
    simp [l_is_name_0, fIn_1]
  have e2 : (signs z).length ≤ 16777216 := by unfold signs; rw [List.length_map]; exact h
  have e3 : fAll [.lst ((z.cps.toList.map fun c => decide (c ∈ ("abcdefghijklmnopqrstuvwxyz" : Str).cps.toList)).map D.bl)] = some (.bl (z.cps.toList.all fun c => decide (c ∈ ("abcdefghijklmnopqrstuvwxyz" : Str).cps.toList))) := by
    unfold fAll
    simp only [bools_map, Option.map_some, List.all_map, Function.id_comp]
  unfold isName
  simp only [e_is_name, runD, m_is_name, sl0]
  simp only [ap_sRet, ap_vAnd, ap_mCh, ap_mC, ap_mF, ap_mCons, ap_mNil, List.map_cons, List.map_nil, List.cons_append, List.nil_append, List.length_cons, List.length_nil, ap_var0, bind_ok, fLen_s, if_pos h, lift_some, fLe_ii, asB_bl, ap_mFr, ap_mLc, ap_mIt, items_str, List.replicate, e2, okW_cons, okW_nil, pin_S, pin_0n, Bool.not_false, Bool.and_true, and_self, if_true, wipe_cons, wipe_nil, List.set, e1, fr_ml, e3]
  by_cases h1 : (z.length : Int) < 1
  · have : ¬ 1 ≤ z.length := by omega
    simp [h, h1, this]
  · have h1' : 1 ≤ z.length := by omega
    by_cases h2 : (8 : Int) < z.length
    · have : ¬ z.length ≤ 8 := by omega
      simp [h, h1, h2, this, h1']
    · have : z.length ≤ 8 := by omega
      simp [h, h1, h2, this, h1']
def atZ (ns : List Int) (k : Int) : Int := if k < ns.length then nth ns k else 0
theorem at_ok (ns : List Int) (k : Int) (h : 0 ≤ k) : e_x_law_at.fn [.lst (ns.map .int), .int k] = .ok (.v (.int (atZ ns k))) := by
  simp only [e_x_law_at, runD, m_x_law_at, sl0]
  by_cases c : k < ns.length
  · simp [c, atZ, atI_int h c]
  · simp [c, atZ]
def Let (z : Str) : Prop := ∀ c ∈ z.cps.toList, c ∈ ("abcdefghijklmnopqrstuvwxyz" : Str).cps.toList
theorem app_list (x y : Str) : (x ++ y).cps.toList = x.cps.toList ++ y.cps.toList := by
  show (x.cps ++ y.cps).toList = _
  exact Array.toList_append
theorem cut_list (z : Str) (a b : Option Int) : (cutS z a b).cps.toList = (z.cps.toList.drop (HT.sIx z.length 0 a)).take (HT.sIx z.length z.length b - HT.sIx z.length 0 a) := by
  unfold cutS; simp
theorem Let.app {x y : Str} (h : Let x) (g : Let y) : Let (x ++ y) := fun c m => by
  rw [app_list] at m
  rcases List.mem_append.mp m with m | m
  · exact h c m
  · exact g c m
theorem Let.cut {z : Str} {a b : Option Int} (h : Let z) : Let (cutS z a b) := fun c m => by
  rw [cut_list] at m
  exact h c (List.mem_of_mem_drop (List.mem_of_mem_take m))
theorem abc_at {i : Int} (h : 0 ≤ i) (h2 : i < 26) : (sgn "abcdefghijklmnopqrstuvwxyz" i).cps.toList = [("abcdefghijklmnopqrstuvwxyz" : Str).cps.toList.getD i.toNat 0] := rfl
theorem Let.sgn {i : Int} (h : 0 ≤ i) (h2 : i < 26) : Let (sgn "abcdefghijklmnopqrstuvwxyz" i) := fun c m => by
  rw [abc_at h h2] at m
  rw [List.mem_singleton.mp m]
  have l : ("abcdefghijklmnopqrstuvwxyz" : Str).cps.toList.length = 26 := abc_len
  rw [List.getD, List.getElem?_eq_getElem (by omega)]
  exact List.getElem_mem _
theorem abc_inj {i j : Int} (h : 0 ≤ i ∧ i < 26) (g : 0 ≤ j ∧ j < 26) (e : (Eng.sgn "abcdefghijklmnopqrstuvwxyz" i).cps.toList = (Eng.sgn "abcdefghijklmnopqrstuvwxyz" j).cps.toList) : i = j := by
  have k : ∀ i j : Fin 26, ("abcdefghijklmnopqrstuvwxyz" : Str).cps.toList.getD i.1 0 = ("abcdefghijklmnopqrstuvwxyz" : Str).cps.toList.getD j.1 0 → i = j := by decide +kernel
  rw [abc_at h.1 h.2, abc_at g.1 g.2] at e
  have := k ⟨i.toNat, by omega⟩ ⟨j.toNat, by omega⟩ (by simpa using e)
  have := congrArg Fin.val this
  simp at this
  omega
theorem fold_mem {c : Nat} {sep : Array Nat} : ∀ {rest : List Str} {acc : Array Nat}, c ∈ (rest.foldl (fun acc p => acc ++ sep ++ p.cps) acc).toList → c ∈ acc.toList ∨ c ∈ sep.toList ∨ ∃ p ∈ rest, c ∈ p.cps.toList
  | [], acc, h => .inl h
  | p :: r, acc, h => by
    rw [List.foldl_cons] at h
    rcases fold_mem h with h | h | ⟨q, m, h⟩
    · simp only [Array.toList_append, List.mem_append] at h
      rcases h with (h | h) | h
      · exact .inl h
      · exact .inr (.inl h)
      · exact .inr (.inr ⟨p, List.mem_cons_self, h⟩)
    · exact .inr (.inl h)
    · exact .inr (.inr ⟨q, List.mem_cons_of_mem _ m, h⟩)
theorem Let.join {zs : List Str} (h : ∀ z ∈ zs, Let z) : Let (Txt.join "" zs) := fun c m => by
  have e0 : ("" : Str).cps.toList = [] := by decide
  have m2 : c ∈ (PySem.Builtin.Str.glued "" zs).cps.toList := m
  cases zs with
  | nil =>
    have : (PySem.Builtin.Str.glued "" []).cps.toList = [] := by decide
    rw [this] at m2; cases m2
  | cons z r =>
    have m3 : c ∈ (r.foldl (fun acc p => acc ++ (Str.ofString "").cps ++ p.cps) z.cps).toList := m2
    rcases fold_mem m3 with q | q | ⟨p, mp, q⟩
    · exact h z List.mem_cons_self c q
    · rw [e0] at q; cases q
    · exact h p (List.mem_cons_of_mem _ mp) c q
theorem isName_of {z : Str} (h1 : 1 ≤ z.length) (h2 : z.length ≤ 8) (h : Let z) : isName z = true := by
  unfold isName
  simp only [Bool.and_eq_true, decide_eq_true_eq, List.all_eq_true]
  exact ⟨⟨h1, h2⟩, h⟩
theorem sIx_nn {n d : Nat} {k : Int} (h : 0 ≤ k) : HT.sIx n d (some k) = min k.toNat n := by
  show (if k < 0 then (k + (n : Int)).toNat else min k.toNat n) = _
  rw [if_neg (by omega)]
theorem cut_pre {z : Str} {k : Int} (h : 0 ≤ k) (h2 : k ≤ z.length) : (cutS z none (some k)).length = k.toNat := by
  have e : (cutS z none (some k)).length = (cutS z none (some k)).cps.toList.length := rfl
  have l : z.cps.toList.length = z.length := rfl
  rw [e, cut_list, List.length_take, List.length_drop, l, HT.sIx_none, sIx_nn h]
  omega
theorem cut_mid {z : Str} {a b : Int} (h : 0 ≤ a) (h1 : a ≤ b) (h2 : b ≤ z.length) : (cutS z (some a) (some b)).length = (b - a).toNat := by
  have e : (cutS z (some a) (some b)).length = (cutS z (some a) (some b)).cps.toList.length := rfl
  have l : z.cps.toList.length = z.length := rfl
  rw [e, cut_list, List.length_take, List.length_drop, l, sIx_nn h, sIx_nn (by omega)]
  omega
theorem nodup_map {α : Type} {f : Nat → α} {n : Nat} (h : ∀ i j, i < n → j < n → f i = f j → i = j) : ((List.range n).map f).Nodup := by
  unfold List.Nodup
  rw [List.pairwise_map]
  refine List.Pairwise.imp_of_mem (fun {a b} ma mb hab e => hab (h a b (List.mem_range.mp ma) (List.mem_range.mp mb) e)) List.nodup_range
abbrev AB : Str := "abcdefghijklmnopqrstuvwxyz"
theorem tail_lc (c m x : D) (n : Int) : ∃ zs : List Str, zs.length = 8 ∧ (∀ z ∈ zs, z.length = 1 ∧ Let z) ∧
    lcGo (put 5) mYes l_x_law_names_0 [some (.v c), some (.v x), some (.v (.str AB)), some (.v (.int n)), none, none, none, none, none, none, none] (rng 0 8) = .ok (zs.map .str) := by
  refine ⟨(List.range 8).map fun (k : Nat) => sgn AB ((n / ((k : Int) + 1) + (k : Int) * k) % 26), by simp, fun z mz => ?_, ?_⟩
  · obtain ⟨k, _, rfl⟩ := List.mem_map.mp mz
    exact ⟨rfl, Let.sgn (Int.emod_nonneg _ (by decide)) (Int.emod_lt_of_pos _ (by decide))⟩
  · unfold rng
    rw [List.map_map]
    refine lcGo_map fun k mk => ⟨[some (.v c), some (.v x), some (.v (.str AB)), some (.v (.int n)), none, some (.v (.int (0 + (k : Int)))), none, none, none, none, none], rfl, ?_⟩
    have hk := List.mem_range.mp mk
    simp [l_x_law_names_0, fMul_ii (Or.inl (show -18446744073709551616 < (k : Int) ∧ (k : Int) < 18446744073709551616 by omega)), fDiv_ii (show 0 < (k : Int) + 1 ∧ (k : Int) + 1 < 18446744073709551616 by omega)]
    rw [fIx_abc (Int.emod_nonneg _ (by decide)) (Int.emod_lt_of_pos _ (by decide))]
    rfl
structure Names (zs : List Str) (n : Nat) : Prop where
  len : zs.length = n
  nm : ∀ z ∈ zs, isName z = true
  nd : zs.Nodup
theorem names_of {n : Nat} {f : Nat → Str} (h : ∀ k, k < n → isName (f k) = true) (g : ∀ i j, i < n → j < n → f i = f j → i = j) : Names ((List.range n).map f) n :=
  ⟨by simp, fun z m => by obtain ⟨k, mk, rfl⟩ := List.mem_map.mp m; exact h k (List.mem_range.mp mk), nodup_map g⟩
theorem nm1_ok (t : Str) (n : Int) (many : Nat) (hm : many ≤ 10) (l1 : t.length = 8) (l2 : Let t) : Names ((List.range many).map fun (k : Nat) => sgn AB ((n / 24 + (k : Int)) % 26) ++ cutS t none (some (n / 3 % 8))) many := by
  refine names_of (fun k hk => ?_) (fun i j hi hj e => ?_)
  · have := cut_pre (z := t) (k := n / 3 % 8) (by omega) (by omega)
    have g : (sgn AB ((n / 24 + (k : Int)) % 26)).length = 1 := sgn_len
    exact isName_of (by rw [len_app]; omega) (by rw [len_app]; omega) (.app (.sgn (by omega) (by omega)) l2.cut)
  · have e2 := congrArg (fun z : Str => z.cps.toList) e
    simp only [app_list] at e2
    have e3 := abc_inj (by omega) (by omega) (List.append_cancel_right e2)
    omega
theorem nm2_ok (t : Str) (n s a : Int) (many : Nat) (hm : many ≤ 10) (l1 : t.length = 8) (l2 : Let t) (hs : 0 ≤ s ∧ s < 8) (ha : 0 ≤ a ∧ a ≤ s) :
    Names ((List.range many).map fun (k : Nat) => cutS t none (some a) ++ sgn AB ((n / 200 + (k : Int)) % 26) ++ cutS t (some a) (some s)) many := by
  refine names_of (fun k hk => ?_) (fun i j hi hj e => ?_)
  · have g1 := cut_pre (z := t) (k := a) (by omega) (by omega)
    have g2 := cut_mid (z := t) (a := a) (b := s) (by omega) (by omega) (by omega)
    have g : (sgn AB ((n / 200 + (k : Int)) % 26)).length = 1 := sgn_len
    exact isName_of (by rw [len_app, len_app]; omega) (by rw [len_app, len_app]; omega) (.app (.app l2.cut (.sgn (by omega) (by omega))) l2.cut)
  · have e2 := congrArg (fun z : Str => z.cps.toList) e
    simp only [app_list, List.append_assoc] at e2
    have e3 := abc_inj (by omega) (by omega) (List.append_cancel_right (List.append_cancel_left e2))
    omega
theorem nm2_e3 (c n a : Int) (t : Str) (many : Nat) : lcGo (put 6) mYes l_x_law_names_3 [some (.v (.int c)), some (.v (.int many)), some (.v (.str AB)), some (.v (.int n)), some (.v (.str t)), none, none, some (.v (.int (n / 3 % 8))), some (.v (.int a)), none, none] (rng 0 many) = .ok ((List.range many).map fun (k : Nat) => D.str (sgn AB ((n / 200 + (k : Int)) % 26))) := by
  unfold rng
  refine lcGo_map fun k mk => ⟨[some (.v (.int c)), some (.v (.int many)), some (.v (.str AB)), some (.v (.int n)), some (.v (.str t)), none, some (.v (.int (0 + (k : Int)))), some (.v (.int (n / 3 % 8))), some (.v (.int a)), none, none], rfl, ?_⟩
  simp [l_x_law_names_3]
  rw [fIx_abc (Int.emod_nonneg _ (by decide)) (Int.emod_lt_of_pos _ (by decide))]
  rfl
theorem nm2_e4 (c n a : Int) (t : Str) (many : Nat) (l1 : t.length = 8) : lcGo (put 10) mYes l_x_law_names_4 [some (.v (.int c)), some (.v (.int many)), some (.v (.str AB)), some (.v (.int n)), some (.v (.str t)), none, none, some (.v (.int (n / 3 % 8))), some (.v (.int a)), some (.v (.lst ((List.range many).map fun (k : Nat) => D.str (sgn AB ((n / 200 + (k : Int)) % 26))))), none] ((List.range many).map fun (k : Nat) => D.str (sgn AB ((n / 200 + (k : Int)) % 26))) = .ok ((List.range many).map fun (k : Nat) => D.str (cutS t none (some a) ++ sgn AB ((n / 200 + (k : Int)) % 26) ++ cutS t (some a) (some (n / 3 % 8)))) := by
  have lt : t.length ≤ 16777216 := by omega
  refine lcGo_map fun k mk => ⟨[some (.v (.int c)), some (.v (.int many)), some (.v (.str AB)), some (.v (.int n)), some (.v (.str t)), none, none, some (.v (.int (n / 3 % 8))), some (.v (.int a)), some (.v (.lst ((List.range many).map fun (k : Nat) => D.str (sgn AB ((n / 200 + (k : Int)) % 26))))), some (.v (.str (sgn AB ((n / 200 + (k : Int)) % 26))))], rfl, ?_⟩
  have g1 := @len_cut t none (some a)
  have g2 := @len_cut t (some a) (some (n / 3 % 8))
  simp [l_x_law_names_4, lt, len_app, show (cutS t none (some a)).length + 1 ≤ 16777216 by omega, show (cutS t none (some a)).length + 1 + (cutS t (some a) (some (n / 3 % 8))).length ≤ 16777216 by omega]
theorem names_ok (c : Int) (many : Nat) (hm : many ≤ 10) : ∃ zs : List Str, Names zs many ∧ e_x_law_names.fn [.int c, .int many] = .ok (.ml ((zs.map .str).map .v)) := by
  have h1 := mix_ok c 0 (by omega)
  have h2 := mix_lo c 0
  generalize mixZ c 0 = n at h1 h2
  obtain ⟨ts, t1, t2, e1⟩ := tail_lc (.int c) .non (.int many) n
  have e2 := fJoin_0 (zs := ts) (by rw [sum_ones fun z m => (t2 z m).1]; omega)
  have l1 : (Txt.join "" ts).length = 8 := by rw [join_len0, sum_ones fun z m => (t2 z m).1]; exact t1
  have l2 : Let (Txt.join "" ts) := Let.join fun z m => (t2 z m).2
  generalize Txt.join "" ts = t at e2 l1 l2
  have r1 : rng1 (.int (many : Int)) = some (rng 0 many) := by rw [rng1_ok ⟨by omega, by omega⟩]; rfl
  have r0 : rng1 (.int 8) = some (rng 0 8) := by rw [rng1_ok ⟨by omega, by omega⟩]; rfl
  have lt : t.length ≤ 16777216 := by omega
  simp only [e_x_law_names, runD, m_x_law_names, sl0]
  simp [h1, r0, e1, e2]
  by_cases c0 : n % 3 = 0
  · by_cases c9 : many < 9
    · have c9' : (many : Int) < 9 := by omega
      refine ⟨(List.range many).map fun (k : Nat) => cutS t none (some ((k : Int) + 1)), names_of (fun k hk => ?_) (fun i j hi hj e => ?_), ?_⟩
      · have := cut_pre (z := t) (k := (k : Int) + 1) (by omega) (by omega)
        exact isName_of (by omega) (by omega) l2.cut
      · have g1 := cut_pre (z := t) (k := (i : Int) + 1) (by omega) (by omega)
        have g2 := cut_pre (z := t) (k := (j : Int) + 1) (by omega) (by omega)
        rw [e, g2] at g1
        omega
      · have e3 : lcGo (put 6) mYes l_x_law_names_1 [some (.v (.int c)), some (.v (.int many)), some (.v (.str AB)), some (.v (.int n)), some (.v (.str t)), none, none, none, none, none, none] (rng 0 many) = .ok ((List.range many).map fun (k : Nat) => D.str (cutS t none (some ((k : Int) + 1)))) := by
          unfold rng
          refine lcGo_map fun k mk => ⟨[some (.v (.int c)), some (.v (.int many)), some (.v (.str AB)), some (.v (.int n)), some (.v (.str t)), none, some (.v (.int (0 + (k : Int)))), none, none, none, none], rfl, ?_⟩
          simp [l_x_law_names_1, lt]
        simp [c0, c9', r1, e3, show many ≤ 16777216 by omega]
    · have c9' : ¬ (many : Int) < 9 := by omega
      have e3 := nm2_e3 c n (n / 24 % (n / 3 % 8 + 1)) t many
      have e4 := nm2_e4 c n (n / 24 % (n / 3 % 8 + 1)) t many l1
      refine ⟨_, nm2_ok t n (n / 3 % 8) (n / 24 % (n / 3 % 8 + 1)) many hm l1 l2 (by omega) ⟨Int.emod_nonneg _ (by omega), by have := Int.emod_lt_of_pos (n / 24) (show 0 < n / 3 % 8 + 1 by omega); omega⟩, ?_⟩
      simp [c0, c9', r1, e3, e4, show many ≤ 16777216 by omega, fMod_ii (show 0 < n / 3 % 8 + 1 by omega)]
  · by_cases c1 : n % 3 = 1
    · have e3 : lcGo (put 6) mYes l_x_law_names_2 [some (.v (.int c)), some (.v (.int many)), some (.v (.str AB)), some (.v (.int n)), some (.v (.str t)), none, none, some (.v (.int (n / 3 % 8))), none, none, none] (rng 0 many) = .ok ((List.range many).map fun (k : Nat) => D.str (sgn AB ((n / 24 + (k : Int)) % 26) ++ cutS t none (some (n / 3 % 8)))) := by
        unfold rng
        refine lcGo_map fun k mk => ⟨[some (.v (.int c)), some (.v (.int many)), some (.v (.str AB)), some (.v (.int n)), some (.v (.str t)), none, some (.v (.int (0 + (k : Int)))), some (.v (.int (n / 3 % 8))), none, none, none], rfl, ?_⟩
        have g1 := @len_cut t none (some (n / 3 % 8))
        simp [l_x_law_names_2, lt]
        rw [fIx_abc (Int.emod_nonneg _ (by decide)) (Int.emod_lt_of_pos _ (by decide))]
        simp [show 1 + (cutS t none (some (n / 3 % 8))).length ≤ 16777216 by omega]
      refine ⟨_, nm1_ok t n many hm l1 l2, ?_⟩
      simp [c0, c1, r1, e3, show many ≤ 16777216 by omega]
    · have e3 := nm2_e3 c n (n / 24 % (n / 3 % 8 + 1)) t many
      have e4 := nm2_e4 c n (n / 24 % (n / 3 % 8 + 1)) t many l1
      refine ⟨_, nm2_ok t n (n / 3 % 8) (n / 24 % (n / 3 % 8 + 1)) many hm l1 l2 (by omega) ⟨Int.emod_nonneg _ (by omega), by have := Int.emod_lt_of_pos (n / 24) (show 0 < n / 3 % 8 + 1 by omega); omega⟩, ?_⟩
      simp [c0, c1, r1, e3, e4, show many ≤ 16777216 by omega, fMod_ii (show 0 < n / 3 % 8 + 1 by omega)]
inductive Sn : Nat → D → Prop
  | non {n : Nat} : Sn n .non
  | int {n : Nat} {i : Int} : Sn n (.int i)
  | str {n : Nat} {z : Str} (h : z.length ≤ 1000000) : Sn n (.str z)
  | tup {n : Nat} {xs : List D} (h : ∀ x ∈ xs, Sn n x) (l : xs.length ≤ 1000) : Sn (n + 1) (.tup xs)
theorem Sn.pn {n : Nat} {d : D} (h : Sn n d) : Pn n d := by
  induction h with
  | non => exact .non
  | int => exact .int
  | str _ => exact .str
  | tup _ _ ih => exact .tup ih
theorem isi_tup_ {n : Nat} {xs : List D} (h : Pn n (.tup xs)) : ∃ ps, fIsi "str" (.tup xs) = some (.bl (PyData.tuple ps).isStr) ∧ fIsi "int" (.tup xs) = some (.bl (PyData.tuple ps).isInt) ∧ fIsi "tuple" (.tup xs) = some (.bl (PyData.tuple ps).isTuple) := by
  obtain ⟨p, e, _⟩ := h.py
  have e2 := e
  unfold D.py at e2
  obtain ⟨ps, _, rfl⟩ := map_some e2
  exact ⟨ps, by unfold fIsi; rw [e]; rfl, by unfold fIsi; rw [e]; rfl, by unfold fIsi; rw [e]; rfl⟩
theorem ti_s {n : Nat} {xs : List D} (h : Pn n (.tup xs)) : fIsi "str" (.tup xs) = some (.bl false) := by obtain ⟨ps, e, _, _⟩ := isi_tup_ h; exact e
theorem ti_i {n : Nat} {xs : List D} (h : Pn n (.tup xs)) : fIsi "int" (.tup xs) = some (.bl false) := by obtain ⟨ps, _, e, _⟩ := isi_tup_ h; exact e
theorem ti_t {n : Nat} {xs : List D} (h : Pn n (.tup xs)) : fIsi "tuple" (.tup xs) = some (.bl true) := by obtain ⟨ps, _, _, e⟩ := isi_tup_ h; exact e
theorem ti_si {i : Int} : fIsi "tuple" (.int i) = some (.bl false) := rfl
theorem ti_ss {z : Str} : fIsi "tuple" (.str z) = some (.bl false) := rfl
theorem ti_sn : fIsi "tuple" .non = some (.bl false) := rfl
def nameB : D → Bool
  | .str z => isName z
  | _ => false
def numB (d : D) (l : Int) : Bool := match d with
  | .int i => decide (l ≤ i)
  | _ => false
def lineB : D → Bool
  | .tup [a, b] => nameB a && numB b 0
  | _ => false
def linesB : D → Bool
  | .tup xs => decide (1 ≤ xs.length) && decide (xs.length ≤ 8) && xs.all lineB
  | _ => false
def firstsB : D → Bool
  | .tup xs => match strsD xs with
    | some zs => decide (zs.length ≤ 8) && zs.all isName && decide zs.Nodup
    | none => false
  | _ => false
def sameB : D → D → Bool
  | .str a, .str b => decide (a = b)
  | _, _ => false
theorem lcGo_bools {tg : D → Sl → Option Sl} {el : Sl → R D} {L : Sl} {p : D → Bool} {ds : List D} (h : ∀ d ∈ ds, ∃ L', tg d L = some L' ∧ el L' = .ok (.bl (p d))) : lcGo tg mYes el L ds = .ok ((ds.map p).map .bl) := by
  have := lcGo_map (tg := tg) (el := el) (L := L) (f := fun d : D => d) (g := fun d => .bl (p d)) (xs := ds) h
  rw [List.map_id'] at this
  rw [this, List.map_map]
  rfl
theorem fAll_b {bs : List Bool} : fAll [.lst (bs.map .bl)] = some (.bl (bs.all id)) := by
  unfold fAll
  simp only [bools_map, Option.map_some]
theorem are_names_ok {n : Nat} {x : D} {ds : List D} (hx : itemsD x = some ds) (h : ∀ d ∈ ds, Sn n d) (hl : ds.length ≤ 1000) : e_are_names.fn [x] = .ok (.v (.bl (ds.all nameB))) := by
  have e1 : lcGo (put 1) mYes l_are_names_0 [some (.v x), none] ds = .ok ((ds.map nameB).map .bl) := lcGo_bools fun d m => by
    refine ⟨[some (.v x), some (.v d)], rfl, ?_⟩
    have hd := h d m
    cases hd with
    | non => simp [l_are_names_0, nameB]
    | int => simp [l_are_names_0, nameB]
    | @str _ z hz => simp [l_are_names_0, nameB, is_name_ok z (by omega)]
    | tup h1 l1 =>
      have := ti_s (Sn.tup h1 l1).pn
      simp [l_are_names_0, nameB, this]
  simp only [e_are_names, runD, m_are_names, sl0]
  have e2 := fAll_b (bs := ds.map nameB)
  rw [List.all_map] at e2
  simp only [Function.id_comp] at e2
  simp at e1 e2
  simp [hx, e1, e2, show ds.length ≤ 16777216 by omega]
theorem is_number_ok {n : Nat} {d : D} {l : Int} (h : Sn n d) : e_is_number.fn [d, .int l] = .ok (.v (.bl (numB d l))) := by
  simp only [e_is_number, runD, m_is_number, sl0]
  cases h with
  | non => simp [numB]
  | @int _ i =>
    by_cases c : l ≤ i
    · simp [numB, c, show ¬ i < l by omega]
    · simp [numB, c, show i < l by omega]
  | str => simp [numB]
  | tup h l =>
    have := ti_i (Sn.tup h l).pn
    simp [numB, this]
theorem is_line_ok {n : Nat} {d : D} (h : Sn n d) : e_is_line.fn [d] = .ok (.v (.bl (lineB d))) := by
  simp only [e_is_line, runD, m_is_line, sl0]
  cases h with
  | non => simp [lineB, ti_sn]
  | int => simp [lineB, ti_si]
  | str => simp [lineB, ti_ss]
  | @tup n xs h l =>
    have t := ti_t (Sn.tup h l).pn
    match xs, h, t with
    | [], h, t => simp [lineB, t]
    | [_], h, t => simp [lineB, t]
    | [a, b], h, t =>
      have c1 : cut [a, b] none (some 1) = [a] := rfl
      have i1 : atI [a, b] 1 = some b := at_lit (n := 1) rfl
      have n1 := are_names_ok (x := .tup [a]) (ds := [a]) rfl (fun d m => by rw [List.mem_singleton.mp m]; exact h a (by simp)) (by simp)
      have n2 := is_number_ok (l := 0) (h b (by simp))
      simp at n1
      cases c : nameB a with
      | true => rw [c] at n1; simp [lineB, t, c1, i1, n1, n2, c]
      | false => rw [c] at n1; simp [lineB, t, c1, i1, n1, c]
    | a :: b :: c :: r, h, t =>
      have : ¬ ((r.length : Int) + 1 + 1 + 1 = 2) := by omega
      simp [lineB, t, this]
theorem are_lines_ok {n : Nat} {d : D} (h : Sn n d) : e_are_lines.fn [d] = .ok (.v (.bl (linesB d))) := by
  simp only [e_are_lines, runD, m_are_lines, sl0]
  cases h with
  | non => simp [linesB, ti_sn]
  | int => simp [linesB, ti_si]
  | str => simp [linesB, ti_ss]
  | @tup n xs h l =>
    have t := ti_t (Sn.tup h l).pn
    have e1 : lcGo (put 1) mYes l_are_lines_0 [some (.v (.tup xs)), none] xs = .ok ((xs.map lineB).map .bl) := lcGo_bools fun d m => ⟨[some (.v (.tup xs)), some (.v d)], rfl, by simp [l_are_lines_0, is_line_ok (h d m)]⟩
    have e2 := fAll_b (bs := xs.map lineB)
    rw [List.all_map] at e2
    simp only [Function.id_comp] at e2
    simp at e1 e2
    by_cases c1 : 1 ≤ xs.length
    · by_cases c2 : xs.length ≤ 8
      · simp [linesB, t, e1, e2, c1, c2, show (1 : Int) ≤ xs.length by omega, show (xs.length : Int) ≤ 8 by omega, show ¬ (xs.length : Int) < 1 by omega, show ¬ (8 : Int) < xs.length by omega, show xs.length ≤ 16777216 by omega]
      · simp [linesB, t, c1, c2, show (1 : Int) ≤ xs.length by omega, show ¬ (xs.length : Int) ≤ 8 by omega, show ¬ (xs.length : Int) < 1 by omega, show (8 : Int) < xs.length by omega]
    · simp [linesB, t, c1, show ¬ (1 : Int) ≤ xs.length by omega, show (xs.length : Int) < 1 by omega]
theorem strs_names {xs : List D} (h : xs.all nameB = true) : ∃ zs : List Str, xs = zs.map .str ∧ zs.all isName = true := by
  induction xs with
  | nil => exact ⟨[], rfl, rfl⟩
  | cons x xs ih =>
    rw [List.all_cons, Bool.and_eq_true] at h
    obtain ⟨zs, e, k⟩ := ih h.2
    cases x with
    | str z => exact ⟨z :: zs, by rw [e]; rfl, by rw [List.all_cons, k, Bool.and_true]; exact h.1⟩
    | _ => exact absurd h.1 (by simp [nameB])
theorem strs_all {xs : List D} {zs : List Str} (h : strsD xs = some zs) : xs = zs.map .str ∧ xs.all nameB = zs.all isName := by
  induction xs generalizing zs with
  | nil => cases h; exact ⟨rfl, rfl⟩
  | cons x xs ih =>
    cases x with
    | str z =>
      have h2 : (strsD xs).map (z :: ·) = some zs := h
      obtain ⟨ys, e, rfl⟩ := map_some h2
      obtain ⟨q1, q2⟩ := ih e
      exact ⟨by rw [q1]; rfl, by rw [List.all_cons, List.all_cons, q2]; rfl⟩
    | _ => cases h
theorem are_firsts_ok {n : Nat} {d : D} (h : Sn n d) : e_are_firsts.fn [d] = .ok (.v (.bl (firstsB d))) := by
  simp only [e_are_firsts, runD, m_are_firsts, sl0]
  cases h with
  | non => simp [firstsB, ti_sn]
  | int => simp [firstsB, ti_si]
  | str => simp [firstsB, ti_ss]
  | @tup n xs h l =>
    have t := ti_t (Sn.tup h l).pn
    have nm := are_names_ok (x := .tup xs) (ds := xs) rfl h l
    by_cases c1 : 8 < xs.length
    · have : firstsB (.tup xs) = false := by
        unfold firstsB
        cases e : strsD xs with
        | none => dsimp only; rw [e]
        | some zs =>
          dsimp only
          rw [e]
          dsimp only
          have := (strs_all e).1
          have l2 : zs.length = xs.length := by rw [this, List.length_map]
          simp [show ¬ zs.length ≤ 8 by omega]
      rw [this]
      simp [t, show (8 : Int) < xs.length by omega]
    · cases c2 : xs.all nameB with
      | false =>
        have : firstsB (.tup xs) = false := by
          unfold firstsB
          cases e : strsD xs with
          | none => dsimp only; rw [e]
          | some zs =>
            dsimp only
            rw [e]
            dsimp only
            have := (strs_all e).2
            rw [← this, c2]
            simp
        rw [this]
        rw [c2] at nm
        simp [t, nm, show ¬ (8 : Int) < xs.length by omega]
      | true =>
        obtain ⟨zs, rfl, k⟩ := strs_names c2
        rw [c2] at nm
        rw [List.length_map] at c1 l
        have fb : firstsB (.tup (zs.map .str)) = decide zs.Nodup := by
          unfold firstsB
          dsimp only
          rw [strs_map]
          simp [k, show zs.length ≤ 8 by omega]
        rw [fb]
        by_cases nd : zs.Nodup
        · have ls := lenSet_nd nd (by omega)
          simp [t, nm, ls, nd, show ¬ (8 : Int) < zs.length by omega]
        · obtain ⟨k, kl, ls⟩ := lenSet_dup nd (by omega)
          simp [t, nm, ls, nd, show ¬ (8 : Int) < zs.length by omega, show ¬ (zs.length : Int) = (k : Int) by omega]
theorem same_eq {n m : Nat} {a b : D} (ha : Sn n a) (hb : Sn m b) (na : nameB a = true) (nb : nameB b = true) : fEq a b = some (.bl (sameB a b)) ∧ fNe a b = some (.bl (!sameB a b)) := by
  cases a with
  | str x =>
    cases b with
    | str y =>
      refine ⟨by simp [sameB], ?_⟩
      simp [sameB]
    | _ => cases nb
  | _ => cases na
def buyB : List D → Bool
  | [r, d, p, l] => nameB r && nameB p && numB d 0 && linesB l
  | _ => false
def spendB : List D → Bool
  | [r, d, p, n, f] => nameB r && nameB p && numB d 0 && numB n 1 && firstsB f
  | _ => false
def moveB : List D → Bool
  | r :: d :: p :: o :: n :: _ => nameB r && nameB p && nameB o && !sameB p o && numB d 0 && numB n 1
  | _ => false
def endB (d e : D) : Bool := match d with
  | .int i => numB e (i + 1)
  | _ => false
def lendB : List D → Bool
  | [r, d, p, o, n, e] => moveB [r, d, p, o, n, e] && endB d e
  | _ => false
def backB : List D → Bool
  | [r, d, o] => nameB r && nameB o && numB d 0 && !sameB r o
  | _ => false
def fixB : List D → Bool
  | [r, o, l] => nameB r && nameB o && !sameB r o && linesB l
  | _ => false
def SnA (ds : List D) : Prop := (∀ d ∈ ds, Sn 4 d) ∧ ds.length ≤ 100
theorem is_buy_ok {w : D} {ds : List D} (h : SnA ds) : e_is_buy.fn [.tup (w :: ds)] = .ok (.v (.bl (buyB ds))) := by
  simp only [e_is_buy, runD, m_is_buy, sl0]
  match ds, h with
  | [], _ => simp [buyB]
  | [_], _ => simp [buyB]
  | [_, _], _ => simp [buyB]
  | [_, _, _], _ => simp [buyB]
  | a :: b :: c :: d :: e :: r, _ =>
    have : ¬ ((r.length : Int) + 1 + 1 + 1 + 1 + 1 + 1 = 5) := by omega
    simp [buyB, this]
  | [r, d, p, l], h =>
    have n1 := are_names_ok (x := .lst [r, p]) (ds := [r, p]) rfl (fun x m => h.1 x (by simp at m; rcases m with rfl | rfl <;> simp)) (by simp)
    have n2 := is_number_ok (l := 0) (h.1 d (by simp))
    have n3 := are_lines_ok (h.1 l (by simp))
    have i1 : atI [w, r, d, p, l] 1 = some r := at_lit (n := 1) rfl
    have i2 : atI [w, r, d, p, l] 2 = some d := at_lit (n := 2) rfl
    have i3 : atI [w, r, d, p, l] 3 = some p := at_lit (n := 3) rfl
    have i4 : atI [w, r, d, p, l] 4 = some l := at_lit (n := 4) rfl
    simp at n1
    cases c1 : nameB r <;> cases c2 : nameB p <;> cases c3 : numB d 0 <;> (rw [c1, c2] at n1; rw [c3] at n2; simp [buyB, i1, i2, i3, i4, n1, n2, n3, c1, c2, c3])
theorem is_spend_ok {w : D} {ds : List D} (h : SnA ds) : e_is_spend.fn [.tup (w :: ds)] = .ok (.v (.bl (spendB ds))) := by
  simp only [e_is_spend, runD, m_is_spend, sl0]
  match ds, h with
  | [], _ => simp [spendB]
  | [_], _ => simp [spendB]
  | [_, _], _ => simp [spendB]
  | [_, _, _], _ => simp [spendB]
  | [_, _, _, _], _ => simp [spendB]
  | a :: b :: c :: d :: e :: f :: r, _ =>
    have : ¬ ((r.length : Int) + 1 + 1 + 1 + 1 + 1 + 1 + 1 = 6) := by omega
    simp [spendB, this]
  | [r, d, p, n, f], h =>
    have n1 := are_names_ok (x := .lst [r, p]) (ds := [r, p]) rfl (fun x m => h.1 x (by simp at m; rcases m with rfl | rfl <;> simp)) (by simp)
    have n2 := is_number_ok (l := 0) (h.1 d (by simp))
    have n4 := is_number_ok (l := 1) (h.1 n (by simp))
    have n3 := are_firsts_ok (h.1 f (by simp))
    have i1 : atI [w, r, d, p, n, f] 1 = some r := at_lit (n := 1) rfl
    have i2 : atI [w, r, d, p, n, f] 2 = some d := at_lit (n := 2) rfl
    have i3 : atI [w, r, d, p, n, f] 3 = some p := at_lit (n := 3) rfl
    have i4 : atI [w, r, d, p, n, f] 4 = some n := at_lit (n := 4) rfl
    have i5 : atI [w, r, d, p, n, f] 5 = some f := at_lit (n := 5) rfl
    simp at n1
    cases c1 : nameB r <;> cases c2 : nameB p <;> cases c3 : numB d 0 <;> cases c4 : numB n 1 <;> (rw [c1, c2] at n1; rw [c3] at n2; rw [c4] at n4; simp [spendB, i1, i2, i3, i4, i5, n1, n2, n3, n4, c1, c2, c3, c4])
theorem is_moving_ok {w : D} {ds : List D} {k : Nat} (h : SnA ds) (hk : 6 ≤ k) : e_is_moving.fn [.tup (w :: ds), .int k] = .ok (.v (.bl (decide (ds.length + 1 = k) && moveB ds))) := by
  simp only [e_is_moving, runD, m_is_moving, sl0]
  by_cases c : ds.length + 1 = k
  · match ds, h, c with
    | [], _, c => simp at c; omega
    | [_], _, c => simp at c; omega
    | [_, _], _, c => simp at c; omega
    | [_, _, _], _, c => simp at c; omega
    | [_, _, _, _], _, c => simp at c; omega
    | r :: d :: p :: o :: n :: z, h, c =>
      have n1 := are_names_ok (x := .lst [r, p, o]) (ds := [r, p, o]) rfl (fun x m => h.1 x (by simp at m; rcases m with rfl | rfl | rfl <;> simp)) (by simp)
      have n2 := is_number_ok (l := 0) (h.1 d (by simp))
      have n4 := is_number_ok (l := 1) (h.1 n (by simp))
      have i1 : atI (w :: r :: d :: p :: o :: n :: z) 1 = some r := at_lit (n := 1) rfl
      have i2 : atI (w :: r :: d :: p :: o :: n :: z) 2 = some d := at_lit (n := 2) rfl
      have i3 : atI (w :: r :: d :: p :: o :: n :: z) 3 = some p := at_lit (n := 3) rfl
      have i4 : atI (w :: r :: d :: p :: o :: n :: z) 4 = some o := at_lit (n := 4) rfl
      have i5 : atI (w :: r :: d :: p :: o :: n :: z) 5 = some n := at_lit (n := 5) rfl
      simp at n1
      have c' : ((z.length : Int) + 1 + 1 + 1 + 1 + 1 + 1) = k := by simp at c; omega
      have fn : fNe (.int ((z.length : Int) + 1 + 1 + 1 + 1 + 1 + 1)) (.int k) = some (.bl false) := by rw [c']; simp
      rw [decide_eq_true c]
      have hp := h.1 p (by simp)
      have ho := h.1 o (by simp)
      clear h c c'
      cases c1 : nameB r <;> cases c2 : nameB p <;> cases c3 : nameB o <;> rw [c1, c2, c3] at n1
      · simp [moveB, i1, i3, i4, n1, c1, c2, c3, fn]
      · simp [moveB, i1, i3, i4, n1, c1, c2, c3, fn]
      · simp [moveB, i1, i3, i4, n1, c1, c2, c3, fn]
      · simp [moveB, i1, i3, i4, n1, c1, c2, c3, fn]
      · simp [moveB, i1, i3, i4, n1, c1, c2, c3, fn]
      · simp [moveB, i1, i3, i4, n1, c1, c2, c3, fn]
      · simp [moveB, i1, i3, i4, n1, c1, c2, c3, fn]
      · have sm := (same_eq hp ho c2 c3).1
        cases c4 : sameB p o <;> cases c5 : numB d 0 <;> (rw [c4] at sm; rw [c5] at n2; simp [moveB, i1, i2, i3, i4, i5, n1, n2, n4, c1, c2, c3, c4, c5, sm, fn])
  · have fn : ∀ m : Nat, m = ds.length → fNe (.int ((m : Int) + 1)) (.int k) = some (.bl true) := fun m e => by
      have : ¬ ((m : Int) + 1 = k) := by omega
      simp [this]
    have fn2 := fn ds.length rfl
    simp [fn2, c]
theorem is_lend_ok {w : D} {ds : List D} (h : SnA ds) : e_is_lend.fn [.tup (w :: ds)] = .ok (.v (.bl (lendB ds))) := by
  have m := is_moving_ok (w := w) h (k := 7) (by omega)
  simp at m
  simp only [e_is_lend, runD, m_is_lend, sl0]
  match ds, h, m with
  | [], _, m => simp [lendB, m]
  | [_], _, m => simp [lendB, m]
  | [_, _], _, m => simp [lendB, m]
  | [_, _, _], _, m => simp [lendB, m]
  | [_, _, _, _], _, m => simp [lendB, m]
  | [_, _, _, _, _], _, m => simp [lendB, m]
  | _ :: _ :: _ :: _ :: _ :: _ :: _ :: r, _, m =>
    simp at m
    simp [lendB, m]
  | [r, d, p, o, n, e], h, m =>
    simp at m
    cases c : moveB [r, d, p, o, n, e] with
    | false => rw [c] at m; simp [lendB, m, c]
    | true =>
      have hd : ∃ i : Int, d = .int i := by
        unfold moveB at c
        cases d with
        | int i => exact ⟨i, rfl⟩
        | _ => simp [numB] at c
      obtain ⟨i, rfl⟩ := hd
      have i6 : atI [w, r, .int i, p, o, n, e] 6 = some e := at_lit (n := 6) rfl
      have i2 : atI [w, r, .int i, p, o, n, e] 2 = some (.int i) := at_lit (n := 2) rfl
      have n1 := is_number_ok (l := i + 1) (h.1 e (by simp))
      rw [c] at m
      simp [lendB, m, c, i6, i2, n1, endB]
theorem is_back_ok {w : D} {ds : List D} (h : SnA ds) : e_is_back.fn [.tup (w :: ds)] = .ok (.v (.bl (backB ds))) := by
  simp only [e_is_back, runD, m_is_back, sl0]
  match ds, h with
  | [], _ => simp [backB]
  | [_], _ => simp [backB]
  | [_, _], _ => simp [backB]
  | a :: b :: c :: d :: r, _ =>
    have : ¬ ((r.length : Int) + 1 + 1 + 1 + 1 + 1 = 4) := by omega
    simp [backB, this]
  | [r, d, o], h =>
    have n1 := are_names_ok (x := .lst [r, o]) (ds := [r, o]) rfl (fun x m => h.1 x (by simp at m; rcases m with rfl | rfl <;> simp)) (by simp)
    have n2 := is_number_ok (l := 0) (h.1 d (by simp))
    have i1 : atI [w, r, d, o] 1 = some r := at_lit (n := 1) rfl
    have i2 : atI [w, r, d, o] 2 = some d := at_lit (n := 2) rfl
    have i3 : atI [w, r, d, o] 3 = some o := at_lit (n := 3) rfl
    have hr := h.1 r (by simp)
    have ho := h.1 o (by simp)
    simp at n1
    cases c1 : nameB r <;> cases c2 : nameB o <;> rw [c1, c2] at n1
    · simp [backB, i1, i2, i3, n1, c1, c2]
    · simp [backB, i1, i2, i3, n1, c1, c2]
    · simp [backB, i1, i2, i3, n1, c1, c2]
    · have sm := (same_eq hr ho c1 c2).2
      cases c4 : sameB r o <;> cases c5 : numB d 0 <;> (rw [c4] at sm; rw [c5] at n2; simp [backB, i1, i2, i3, n1, n2, c1, c2, c4, c5, sm])
theorem is_fix_ok {w : D} {ds : List D} (h : SnA ds) : e_is_fix.fn [.tup (w :: ds)] = .ok (.v (.bl (fixB ds))) := by
  simp only [e_is_fix, runD, m_is_fix, sl0]
  match ds, h with
  | [], _ => simp [fixB]
  | [_], _ => simp [fixB]
  | [_, _], _ => simp [fixB]
  | a :: b :: c :: d :: r, _ =>
    have : ¬ ((r.length : Int) + 1 + 1 + 1 + 1 + 1 = 4) := by omega
    simp [fixB, this]
  | [r, o, l], h =>
    have n1 := are_names_ok (x := .tup [r, o]) (ds := [r, o]) rfl (fun x m => h.1 x (by simp at m; rcases m with rfl | rfl <;> simp)) (by simp)
    have n3 := are_lines_ok (h.1 l (by simp))
    have i1 : atI [w, r, o, l] 1 = some r := at_lit (n := 1) rfl
    have i2 : atI [w, r, o, l] 2 = some o := at_lit (n := 2) rfl
    have i3 : atI [w, r, o, l] 3 = some l := at_lit (n := 3) rfl
    have cc : cut [w, r, o, l] (some 1) (some 3) = [r, o] := rfl
    have hr := h.1 r (by simp)
    have ho := h.1 o (by simp)
    simp at n1
    cases c1 : nameB r <;> cases c2 : nameB o <;> rw [c1, c2] at n1
    · simp [fixB, i1, i2, i3, cc, n1, c1, c2]
    · simp [fixB, i1, i2, i3, cc, n1, c1, c2]
    · simp [fixB, i1, i2, i3, cc, n1, c1, c2]
    · have sm := (same_eq hr ho c1 c2).2
      cases c4 : sameB r o <;> (rw [c4] at sm; simp [fixB, i1, i2, i3, cc, n1, n3, c1, c2, c4, sm])
def deedB (w : Str) (ds : List D) : Bool :=
  if w = "buy" then buyB ds else if w = "spend" then spendB ds else if w = "give" ∨ w = "change" then decide (ds.length + 1 = 6) && moveB ds
  else if w = "lend" then lendB ds else if w = "back" then backB ds else decide (w = "fix") && fixB ds
theorem in_two {z a b : Str} : fIn (.str z) (.tup [.str a, .str b]) = some (.bl (decide (z = a ∨ z = b))) := by
  have h : fIn (.str z) (.tup [.str a, .str b]) = (match D.py (.str z), D.pyA [.str a, .str b] with
    | some p, some ps => if min (PyData.depthAll ps) p.depth ≤ 64 then some (ps.any fun q => PyData.eqv q p) else none
    | _, _ => none).map .bl := rfl
  rw [h]
  show (if min (PyData.depthAll [PyData.str a, PyData.str b]) (PyData.depth (.str z)) ≤ 64 then some ([PyData.str a, PyData.str b].any fun y => PyData.eqv y (.str z)) else none).map _ = _
  rw [if_pos (Nat.le_trans (Nat.min_le_right _ _) (by simp [PyData.depth]))]
  have e : ∀ x : Str, PyData.eqv (.str x) (.str z) = decide (z = x) := fun x => by
    have e := Pn.eqv (n := 0) (m := 0) (x := .str x) (y := .str z) .str .str (p := .str x) (q := .str z) rfl rfl
    by_cases c : z = x
    · subst c
      rw [e.mpr rfl]
      simp
    · rw [decide_eq_false c]
      cases h : PyData.eqv (.str x) (.str z) with
      | false => rfl
      | true => exact absurd (by have := e.mp h; cases this; rfl) c
  simp [e, Bool.decide_or]
theorem is_deed_ok {w : Str} {ds : List D} (h : SnA ds) : e_is_deed.fn [.tup (.str w :: ds)] = .ok (.v (.bl (deedB w ds))) := by
  have i0 : atI (.str w :: ds) 0 = some (.str w) := at_lit (n := 0) rfl
  have g1 := is_buy_ok (w := .str w) h
  have g2 := is_spend_ok (w := .str w) h
  have g3 := is_moving_ok (w := .str w) h (k := 6) (by omega)
  have g4 := is_lend_ok (w := .str w) h
  have g5 := is_back_ok (w := .str w) h
  have g6 := is_fix_ok (w := .str w) h
  have g7 := in_two (z := w) (a := "give") (b := "change")
  simp only [e_is_deed, runD, m_is_deed, sl0]
  unfold deedB
  have fe : ∀ z : Str, w = z → fEq (.str w) (.str z) = some (.bl true) := fun z e => by rw [fEq_ss, decide_eq_true e]
  have fn : ∀ z : Str, ¬ w = z → fEq (.str w) (.str z) = some (.bl false) := fun z e => by rw [fEq_ss, decide_eq_false e]
  by_cases c1 : w = "buy"
  · rw [if_pos c1]
    simp [i0, g1, fe _ c1, -fEq_ss]
  rw [if_neg c1]
  by_cases c2 : w = "spend"
  · rw [if_pos c2]
    simp [i0, g2, fn _ c1, fe _ c2, -fEq_ss]
  rw [if_neg c2]
  by_cases c3 : w = "give" ∨ w = "change"
  · rw [if_pos c3]
    rw [decide_eq_true c3] at g7
    simp at g3
    simp [i0, g3, g7, fn _ c1, fn _ c2, -fEq_ss]
  rw [if_neg c3]
  rw [decide_eq_false c3] at g7
  by_cases c4 : w = "lend"
  · rw [if_pos c4]
    simp [i0, g4, g7, fn _ c1, fn _ c2, fe _ c4, -fEq_ss]
  rw [if_neg c4]
  by_cases c5 : w = "back"
  · rw [if_pos c5]
    simp [i0, g5, g7, fn _ c1, fn _ c2, fn _ c4, fe _ c5, -fEq_ss]
  rw [if_neg c5]
  by_cases c6 : w = "fix"
  · rw [decide_eq_true c6]
    simp [i0, g6, g7, fn _ c1, fn _ c2, fn _ c4, fn _ c5, fe _ c6, -fEq_ss]
  · rw [decide_eq_false c6]
    simp [i0, g7, fn _ c1, fn _ c2, fn _ c4, fn _ c5, fn _ c6, -fEq_ss]
theorem checked_ok {w : Str} {ds : List D} (h : SnA ds) (k : deedB w ds = true) : e_checked_deed.fn [.tup (.str w :: ds)] = .ok (.v (.bl true)) := by
  have g := is_deed_ok (w := w) h
  rw [k] at g
  simp only [e_checked_deed, runD, m_checked_deed, sl0]
  simp [g]
theorem checked_no {w : Str} {ds : List D} (h : SnA ds) (k : deedB w ds = false) : e_checked_deed.fn [.tup (.str w :: ds)] = .exc "BadDeed" := by
  have g := is_deed_ok (w := w) h
  rw [k] at g
  simp only [e_checked_deed, runD, m_checked_deed, sl0]
  simp [g]
def lnD (p : Str × Int) : D := .tup [.str p.1, .int p.2]
inductive Deed where
  | buy (r : Str) (d : Int) (p : Str) (l : List (Str × Int))
  | spend (r : Str) (d : Int) (p : Str) (n : Int) (f : List Str)
  | give (r : Str) (d : Int) (p o : Str) (n : Int)
  | chg (r : Str) (d : Int) (p o : Str) (n : Int)
  | lend (r : Str) (d : Int) (p o : Str) (n e : Int)
  | back (r : Str) (d : Int) (o : Str)
  | fix (r o : Str) (l : List (Str × Int))
def Deed.w : Deed → Str
  | .buy .. => "buy"
  | .spend .. => "spend"
  | .give .. => "give"
  | .chg .. => "change"
  | .lend .. => "lend"
  | .back .. => "back"
  | .fix .. => "fix"
def Deed.ps : Deed → List D
  | .buy r d p l => [.str r, .int d, .str p, .tup (l.map lnD)]
  | .spend r d p n f => [.str r, .int d, .str p, .int n, .tup (f.map .str)]
  | .give r d p o n => [.str r, .int d, .str p, .str o, .int n]
  | .chg r d p o n => [.str r, .int d, .str p, .str o, .int n]
  | .lend r d p o n e => [.str r, .int d, .str p, .str o, .int n, .int e]
  | .back r d o => [.str r, .int d, .str o]
  | .fix r o l => [.str r, .str o, .tup (l.map lnD)]
def Deed.d (x : Deed) : D := .tup (.str x.w :: x.ps)
def Num (i : Int) : Prop := 0 ≤ i ∧ i < 1000000000000
structure Lns (l : List (Str × Int)) : Prop where
  lo : 1 ≤ l.length
  hi : l.length ≤ 8
  ok : ∀ p ∈ l, isName p.1 = true ∧ Num p.2
structure Fst (f : List Str) : Prop where
  hi : f.length ≤ 8
  nm : ∀ z ∈ f, isName z = true
  nd : f.Nodup
def Deed.Ok : Deed → Prop
  | .buy r d p l => isName r = true ∧ Num d ∧ isName p = true ∧ Lns l
  | .spend r d p n f => isName r = true ∧ Num d ∧ isName p = true ∧ (1 ≤ n ∧ Num n) ∧ Fst f
  | .give r d p o n => isName r = true ∧ Num d ∧ isName p = true ∧ isName o = true ∧ p ≠ o ∧ (1 ≤ n ∧ Num n)
  | .chg r d p o n => isName r = true ∧ Num d ∧ isName p = true ∧ isName o = true ∧ p ≠ o ∧ (1 ≤ n ∧ Num n)
  | .lend r d p o n e => isName r = true ∧ Num d ∧ isName p = true ∧ isName o = true ∧ p ≠ o ∧ (1 ≤ n ∧ Num n) ∧ (d < e ∧ Num e)
  | .back r d o => isName r = true ∧ Num d ∧ isName o = true ∧ r ≠ o
  | .fix r o l => isName r = true ∧ isName o = true ∧ r ≠ o ∧ Lns l
theorem isName_l {z : Str} (h : isName z = true) : 1 ≤ z.length ∧ z.length ≤ 8 := by
  unfold isName at h
  simp only [Bool.and_eq_true, decide_eq_true_eq] at h
  exact h.1
theorem sn_name {n : Nat} {z : Str} (h : isName z = true) : Sn n (.str z) := .str (by have := isName_l h; omega)
theorem sn_lns {l : List (Str × Int)} (h : Lns l) : Sn 4 (.tup (l.map lnD)) := .tup (fun x m => by
  obtain ⟨p, mp, rfl⟩ := List.mem_map.mp m
  refine .tup (fun y my => ?_) (by simp)
  simp at my
  rcases my with rfl | rfl
  · exact sn_name (h.ok p mp).1
  · exact .int) (by rw [List.length_map]; have := h.hi; omega)
theorem sn_fst {f : List Str} (h : Fst f) : Sn 4 (.tup (f.map .str)) := .tup (fun x m => by
  obtain ⟨p, mp, rfl⟩ := List.mem_map.mp m
  exact sn_name (h.nm p mp)) (by rw [List.length_map]; have := h.hi; omega)
theorem sn_c {a : D} {ds : List D} (h : Sn 4 a) (t : ∀ d ∈ ds, Sn 4 d) : ∀ d ∈ a :: ds, Sn 4 d := fun d m => by
  rcases List.mem_cons.mp m with rfl | m
  · exact h
  · exact t d m
theorem sn_e : ∀ d ∈ ([] : List D), Sn 4 d := fun _ m => by cases m
theorem Deed.sn {x : Deed} (k : x.Ok) : SnA x.ps := by
  cases x with
  | buy r d p l => exact ⟨sn_c (sn_name k.1) (sn_c .int (sn_c (sn_name k.2.2.1) (sn_c (sn_lns k.2.2.2) sn_e))), by simp [Deed.ps]⟩
  | spend r d p n f => exact ⟨sn_c (sn_name k.1) (sn_c .int (sn_c (sn_name k.2.2.1) (sn_c .int (sn_c (sn_fst k.2.2.2.2) sn_e)))), by simp [Deed.ps]⟩
  | give r d p o n => exact ⟨sn_c (sn_name k.1) (sn_c .int (sn_c (sn_name k.2.2.1) (sn_c (sn_name k.2.2.2.1) (sn_c .int sn_e)))), by simp [Deed.ps]⟩
  | chg r d p o n => exact ⟨sn_c (sn_name k.1) (sn_c .int (sn_c (sn_name k.2.2.1) (sn_c (sn_name k.2.2.2.1) (sn_c .int sn_e)))), by simp [Deed.ps]⟩
  | lend r d p o n e => exact ⟨sn_c (sn_name k.1) (sn_c .int (sn_c (sn_name k.2.2.1) (sn_c (sn_name k.2.2.2.1) (sn_c .int (sn_c .int sn_e))))), by simp [Deed.ps]⟩
  | back r d o => exact ⟨sn_c (sn_name k.1) (sn_c .int (sn_c (sn_name k.2.2.1) sn_e)), by simp [Deed.ps]⟩
  | fix r o l => exact ⟨sn_c (sn_name k.1) (sn_c (sn_name k.2.1) (sn_c (sn_lns k.2.2.2) sn_e)), by simp [Deed.ps]⟩
theorem lns_B {l : List (Str × Int)} (h : Lns l) : linesB (.tup (l.map lnD)) = true := by
  have a := h.lo
  have b := h.hi
  have c : (l.map lnD).all lineB = true := List.all_eq_true.mpr fun x m => by
    obtain ⟨p, mp, rfl⟩ := List.mem_map.mp m
    have := h.ok p mp
    simp [lnD, lineB, nameB, numB, this.1, this.2.1]
  unfold linesB
  simp only [List.length_map, c, decide_eq_true a, decide_eq_true b, Bool.and_self]
theorem fst_B {f : List Str} (h : Fst f) : firstsB (.tup (f.map .str)) = true := by
  unfold firstsB
  dsimp only
  rw [strs_map]
  have c : f.all isName = true := List.all_eq_true.mpr h.nm
  simp [c, h.hi, h.nd]
theorem Deed.good {x : Deed} (k : x.Ok) : deedB x.w x.ps = true := by
  cases x with
  | buy r d p l =>
    obtain ⟨k1, k2, k3, k4⟩ := k
    have : buyB (Deed.ps (.buy r d p l)) = true := by simp [Deed.ps, buyB, nameB, numB, k1, k2.1, k3, lns_B k4]
    exact this
  | spend r d p n f =>
    obtain ⟨k1, k2, k3, k4, k5⟩ := k
    have : spendB (Deed.ps (.spend r d p n f)) = true := by simp [Deed.ps, spendB, nameB, numB, k1, k2.1, k3, k4.1, fst_B k5]
    exact this
  | give r d p o n =>
    obtain ⟨k1, k2, k3, k4, k5, k6⟩ := k
    have : moveB (Deed.ps (.give r d p o n)) = true := by simp [Deed.ps, moveB, nameB, numB, sameB, k1, k2.1, k3, k4, k5, k6.1]
    exact this
  | chg r d p o n =>
    obtain ⟨k1, k2, k3, k4, k5, k6⟩ := k
    have : moveB (Deed.ps (.chg r d p o n)) = true := by simp [Deed.ps, moveB, nameB, numB, sameB, k1, k2.1, k3, k4, k5, k6.1]
    exact this
  | lend r d p o n e =>
    obtain ⟨k1, k2, k3, k4, k5, k6, k7⟩ := k
    have : lendB (Deed.ps (.lend r d p o n e)) = true := by simp [Deed.ps, lendB, endB, moveB, nameB, numB, sameB, k1, k2.1, k3, k4, k5, k6.1, show d + 1 ≤ e by omega]
    exact this
  | back r d o =>
    obtain ⟨k1, k2, k3, k4⟩ := k
    have : backB (Deed.ps (.back r d o)) = true := by simp [Deed.ps, backB, nameB, numB, sameB, k1, k2.1, k3, k4]
    exact this
  | fix r o l =>
    obtain ⟨k1, k2, k3, k4⟩ := k
    have : fixB (Deed.ps (.fix r o l)) = true := by simp [Deed.ps, fixB, nameB, sameB, k1, k2, k3, lns_B k4]
    exact this
theorem Deed.checked {x : Deed} (k : x.Ok) : e_checked_deed.fn [x.d] = .ok (.v (.bl true)) := checked_ok (Deed.sn k) (Deed.good k)
theorem pick_of {α : Type} {f : α → D} {xs : List α} {i : Int} (h : 0 ≤ i) (h2 : i < xs.length) : ∃ x ∈ xs, atI (xs.map f) i = some (f x) := by
  obtain ⟨k, rfl⟩ : ∃ k : Nat, i = k := ⟨i.toNat, by omega⟩
  have hk : k < xs.length := by omega
  exact ⟨xs[k], List.getElem_mem hk, at_lit (n := k) (by rw [List.getElem?_map, List.getElem?_eq_getElem hk]; rfl)⟩
theorem number_ok {m c : Int} (hm : 0 ≤ m) : ∃ v, Num v ∧ e_x_law_number.fn [.int m, .int c] = .ok (.v (.int v)) := by
  obtain ⟨v, e, q⟩ := pickI (ds := [.int (m % 8), .int (m % 3000), .int (c % 1000000000000), .int (1000000000000 - 1)]) (i := m / 3000 % 4) (ns := [m % 8, m % 3000, c % 1000000000000, 1000000000000 - 1]) (P := Num) rfl (by omega) (by simp; omega) (by
    intro n mn
    simp at mn
    unfold Num
    rcases mn with rfl | rfl | rfl | rfl <;> omega)
  refine ⟨v, q, ?_⟩
  have d3 : fDiv (.int m) (.int 3000) = some (.int (m / 3000)) := fDiv_ii (by omega)
  simp only [e_x_law_number, runD, m_x_law_number, sl0]
  simp at e
  simp [d3, e]
theorem lines_go {ns : List Int} {at0 : Nat} (ha : at0 ≤ 100) {zs : List Str} (hz : 1 ≤ zs.length) (hn : ∀ z ∈ zs, isName z = true) {m : D} : ∀ {j i : Nat} {os : List (Str × Int)} {x y z : Option D}, i + j ≤ 8 → os.length + j ≤ 100 → ∃ (ls : List (Str × Int)) (x' y' z' : Option D), ls.length = j ∧ (∀ p ∈ ls, isName p.1 = true ∧ Num p.2) ∧
    forGo (put 5) b_x_law_some_lines_0 [some (.v (.lst (ns.map .int))), some (.v (.int at0)), some (.v (.lst (zs.map .str))), some (.v m), some (.ml ((os.map lnD).map .v)), x.map .v, y.map .v, z.map .v] (cnt i j) =
      .next [some (.v (.lst (ns.map .int))), some (.v (.int at0)), some (.v (.lst (zs.map .str))), some (.v m), some (.ml (((os ++ ls).map lnD).map .v)), Option.map .v x', Option.map .v y', Option.map .v z']
  | 0, i, os, x, y, z, _, _ => ⟨[], x, y, z, rfl, (fun _ h => by cases h), by simp⟩
  | j + 1, i, os, x, y, z, h, h2 => by
    have a1 := at_ok ns ((at0 : Int) + i) (by omega)
    generalize atZ ns ((at0 : Int) + i) = c at a1
    have m1 := mix_ok c (5 + (i : Int)) (by omega)
    have m2 := mix_lo c (5 + (i : Int))
    generalize mixZ c (5 + (i : Int)) = n at m1 m2
    obtain ⟨v, hv, e1⟩ := number_ok (m := n / 9) (c := c) (by omega)
    have g0 := Int.emod_nonneg n (b := (zs.length : Int)) (by omega)
    have g1 := Int.emod_lt_of_pos n (b := (zs.length : Int)) (by omega)
    obtain ⟨w, mw, e2⟩ := pick_of (f := D.str) (xs := zs) (i := n % (zs.length : Int)) g0 g1
    have mz : fMod (.int n) (.int (zs.length : Int)) = some (.int (n % (zs.length : Int))) := fMod_ii (by omega)
    have d9 : fDiv (.int n) (.int 9) = some (.int (n / 9)) := fDiv_ii (by omega)
    generalize n % (zs.length : Int) = q at e2 mz
    obtain ⟨ls, x', y', z', l1, l2, g⟩ := lines_go (ns := ns) ha hz hn (m := m) (j := j) (i := i + 1) (os := os ++ [(w, v)]) (x := some (.int i)) (y := some (.int n)) (z := some (.int v)) (by omega) (by simp; omega)
    refine ⟨(w, v) :: ls, x', y', z', by simp [l1], ?_, ?_⟩
    · intro p mp
      rcases List.mem_cons.mp mp with rfl | mp
      · exact ⟨hn w mw, hv⟩
      · exact l2 p mp
    · have st : b_x_law_some_lines_0 [some (.v (.lst (ns.map .int))), some (.v (.int at0)), some (.v (.lst (zs.map .str))), some (.v m), some (.ml ((os.map lnD).map .v)), some (.v (.int i)), y.map .v, z.map .v] = .next [some (.v (.lst (ns.map .int))), some (.v (.int at0)), some (.v (.lst (zs.map .str))), some (.v m), some (.ml (((os ++ [(w, v)]).map lnD).map .v)), some (.v (.int i)), some (.v (.int n)), some (.v (.int v))] := by
        cases y <;> cases z <;> simp [b_x_law_some_lines_0, a1, m1, d9, e1, mz, e2, lnD, show os.length < 16777216 by omega]
      rw [cnt_S, forGo_step (L1 := [some (.v (.lst (ns.map .int))), some (.v (.int at0)), some (.v (.lst (zs.map .str))), some (.v m), some (.ml ((os.map lnD).map .v)), some (.v (.int i)), y.map .v, z.map .v]) (by simp) st]
      rw [List.append_assoc] at g
      exact g
theorem some_lines_ok (ns : List Int) {at0 : Nat} (ha : at0 ≤ 100) {zs : List Str} (hz : 1 ≤ zs.length) (hn : ∀ z ∈ zs, isName z = true) : ∃ ls, Lns ls ∧ e_x_law_some_lines.fn [.lst (ns.map .int), .int at0, .lst (zs.map .str)] = .ok (.v (.tup (ls.map lnD))) := by
  have a1 := at_ok ns (at0 : Int) (by omega)
  generalize atZ ns (at0 : Int) = c at a1
  have m1 := mix_ok c 4 (by omega)
  have m2 := mix_lo c 4
  generalize mixZ c 4 = n at m1 m2
  obtain ⟨j, ej⟩ : ∃ j : Nat, 1 + n % 8 = j := ⟨(1 + n % 8).toNat, by omega⟩
  obtain ⟨ls, x', y', z', l1, l2, g⟩ := lines_go (ns := ns) ha hz hn (m := .int n) (j := j) (i := 0) (os := []) (x := none) (y := none) (z := none) (by omega) (by simp; omega)
  have rr := rng1_cnt (n := j) (by omega)
  refine ⟨ls, ⟨by omega, by omega, l2⟩, ?_⟩
  simp only [e_x_law_some_lines, runD, m_x_law_some_lines, sl0]
  simp at g
  simp [a1, m1, ej, rr, g]
theorem cut_map {α β : Type} {f : α → β} {xs : List α} {a b : Option Int} : cut (xs.map f) a b = (cut xs a b).map f := by
  unfold cut
  rw [List.length_map, List.map_take, List.map_drop]
theorem cut_pre_l {α : Type} {xs : List α} {n : Nat} (h : n ≤ xs.length) : cut xs none (some (n : Int)) = xs.take n := by
  unfold cut
  rw [HT.sIx_none, HT.sIx_nat, Nat.min_eq_left h]
  simp
theorem cut_suf_l {α : Type} {xs : List α} {n : Nat} (h : n ≤ xs.length) : cut xs (some (n : Int)) none = xs.drop n := by
  unfold cut
  rw [HT.sIx_none, HT.sIx_nat, Nat.min_eq_left h]
  exact List.take_of_length_le (by simp)
noncomputable def sd_0 : Sl → RS := (sSet 2 (mFr (mCall e_x_law_at.fn (mCons (mVar 0) (mCons (mVar 1) mNil)))))
noncomputable def sd_1 : Sl → RS := (sSet 3 (mFr (mCall e_x_law_mix.fn (mCons (mVar 2) (mCons (mC (.int 1)) mNil)))))
noncomputable def sd_2 : Sl → RS := (sSet 4 (m2 fAdd (mFr (mCall e_x_law_names.fn (mCons (mVar 2) (mCons (mC (.int 4)) mNil)))) (mSl (mFr (mCall e_x_law_names.fn (mCons (mFr (mCall e_x_law_at.fn (mCons (mVar 0) (mCons (m2 fAdd (mVar 1) (mC (.int 1))) mNil)))) (mCons (mC (.int 8)) mNil)))) (mP (mC (.int 1))) mNoP)))
noncomputable def sd_3 : Sl → RS := (sSet 5 (m2 fIx (mVar 4) (m2 fMod (m2 fDiv (mVar 3) (mC (.int 7))) (mF fLen (mCons (mVar 4) mNil)))))
noncomputable def sd_4 : Sl → RS := (sSet 6 (m2 fIx (mVar 4) (m2 fMod (m2 fDiv (mVar 3) (mC (.int 80))) (mF fLen (mCons (mVar 4) mNil)))))
noncomputable def sd_5 : Sl → RS := (sSet 7 (m2 fIx (mVar 4) (m2 fMod (m2 fDiv (mVar 3) (mC (.int 900))) (mF fLen (mCons (mVar 4) mNil)))))
noncomputable def sd_6 : Sl → RS := (sIf (mB (m2 fEq (mVar 7) (mVar 6))) (sSet 7 (m2 fIx (mFr (mLc (mIt (mVar 4)) [8] (put 8) (mB (m2 fNe (mVar 8) (mVar 6))) l_x_law_deed_0)) (mC (.int 0)))) sNext)
noncomputable def sd_7 : Sl → RS := (sSet 9 (m2 fIx (mFr (mLc (mIt (mVar 4)) [8] (put 8) (mB (m2 fNe (mVar 8) (mVar 5))) l_x_law_deed_1)) (m2 fMod (m2 fDiv (mVar 3) (mC (.int 40))) (mC (.int 2)))))
noncomputable def sd_8 : Sl → RS := (sSet 10 (mF fMin (mCons (m2 fSub (m2 fPow (mC (.int 10)) (mC (.int 12))) (mC (.int 2))) (mCons (mFr (mCall e_x_law_number.fn (mCons (mFr (mCall e_x_law_mix.fn (mCons (mVar 2) (mCons (mC (.int 2)) mNil)))) (mCons (mVar 2) mNil)))) mNil))))
noncomputable def sd_9 : Sl → RS := (sSet 11 (mFr (mCall e_x_law_mix.fn (mCons (mFr (mCall e_x_law_at.fn (mCons (mVar 0) (mCons (m2 fAdd (mVar 1) (mC (.int 1))) mNil)))) (mCons (mC (.int 3)) mNil)))))
noncomputable def sd_10 : Sl → RS := (sSet 12 (mF fMax (mCons (mC (.int 1)) (mCons (mFr (mCall e_x_law_number.fn (mCons (mVar 11) (mCons (mFr (mCall e_x_law_at.fn (mCons (mVar 0) (mCons (m2 fAdd (mVar 1) (mC (.int 1))) mNil)))) mNil)))) mNil))))
noncomputable def sd_11 : Sl → RS := (sSet 13 (m2 fIx (mFr (mLst (mCons (mC (.str "buy")) (mCons (mC (.str "spend")) (mCons (mC (.str "give")) (mCons (mC (.str "change")) (mCons (mC (.str "lend")) (mCons (mC (.str "back")) (mCons (mC (.str "fix")) mNil))))))))) (m2 fMod (mVar 3) (mC (.int 7)))))
noncomputable def sd_12 : Sl → RS := (sIf (mB (m2 fEq (mVar 13) (mC (.str "buy")))) (sRet (mTup (mCons (mVar 13) (mCons (mVar 5) (mCons (mVar 10) (mCons (mVar 6) (mCons (mFr (mCall e_x_law_some_lines.fn (mCons (mVar 0) (mCons (m2 fAdd (mVar 1) (mC (.int 2))) (mCons (mVar 4) mNil))))) mNil))))))) sNext)
noncomputable def sd_13 : Sl → RS := (sIf (mB (m2 fEq (mVar 13) (mC (.str "spend")))) (sSeq (sSet 14 (mFr (mLc (mEn (mVar 4)) [15, 8] (putTup 2 (putCons (put 15) (putCons (put 8) putNil))) (mB (m2 fNin (mVar 8) (mSl (mVar 4) mNoP (mP (mVar 15))))) l_x_law_deed_2))) (sSeq (sSet 16 (mSl (mSl (mVar 14) (mP (m2 fMod (m2 fDiv (mVar 11) (mC (.int 7))) (mC (.int 3)))) mNoP) mNoP (mP (m2 fMod (m2 fDiv (mVar 11) (mC (.int 21))) (mC (.int 9)))))) (sRet (mTup (mCons (mVar 13) (mCons (mVar 5) (mCons (mVar 10) (mCons (mVar 6) (mCons (mVar 12) (mCons (mF fTuple (mCons (mVar 16) mNil)) mNil)))))))))) sNext)
noncomputable def sd_14 : Sl → RS := (sIf (mB (m2 fEq (mVar 13) (mC (.str "lend")))) (sSeq (sSet 17 (m2 fAdd (m2 fAdd (mVar 10) (mC (.int 1))) (m2 fIx (mFr (mLst (mCons (mC (.int 0)) (mCons (m2 fMod (mVar 11) (mC (.int 50))) (mCons (mVar 11) mNil))))) (m2 fMod (m2 fDiv (mVar 11) (mC (.int 50))) (mC (.int 3)))))) (sRet (mTup (mCons (mVar 13) (mCons (mVar 5) (mCons (mVar 10) (mCons (mVar 6) (mCons (mVar 7) (mCons (mVar 12) (mCons (mF fMin (mCons (m2 fSub (m2 fPow (mC (.int 10)) (mC (.int 12))) (mC (.int 1))) (mCons (mVar 17) mNil))) mNil)))))))))) sNext)
noncomputable def sd_15 : Sl → RS := (sIf (mB (m2 fEq (mVar 13) (mC (.str "back")))) (sRet (mTup (mCons (mVar 13) (mCons (mVar 5) (mCons (mVar 10) (mCons (mVar 9) mNil)))))) sNext)
noncomputable def sd_16 : Sl → RS := (sIf (mB (m2 fEq (mVar 13) (mC (.str "fix")))) (sRet (mTup (mCons (mVar 13) (mCons (mVar 5) (mCons (mVar 9) (mCons (mFr (mCall e_x_law_some_lines.fn (mCons (mVar 0) (mCons (m2 fAdd (mVar 1) (mC (.int 2))) (mCons (mVar 4) mNil))))) mNil)))))) sNext)
noncomputable def sd_17 : Sl → RS := (sRet (mTup (mCons (mVar 13) (mCons (mVar 5) (mCons (mVar 10) (mCons (mVar 6) (mCons (mVar 7) (mCons (mVar 12) mNil))))))))
theorem sd_eq : m_x_law_deed = (sSeq sd_0 (sSeq sd_1 (sSeq sd_2 (sSeq sd_3 (sSeq sd_4 (sSeq sd_5 (sSeq sd_6 (sSeq sd_7 (sSeq sd_8 (sSeq sd_9 (sSeq sd_10 (sSeq sd_11 (sSeq sd_12 (sSeq sd_13 (sSeq sd_14 (sSeq sd_15 (sSeq sd_16 sd_17))))))))))))))))) := rfl
theorem nodup_ne {p : Str} : ∀ {xs : List Str}, xs.Nodup → xs.length ≤ (xs.filter fun z => !decide (z = p)).length + 1
  | [], _ => by simp
  | x :: xs, h => by
    obtain ⟨h1, h2⟩ := List.nodup_cons.mp h
    rw [List.filter_cons]
    by_cases c : x = p
    · subst c
      have : (xs.filter fun z => !decide (z = x)) = xs := List.filter_eq_self.mpr fun z m => by
        have : z ≠ x := fun e => h1 (e ▸ m)
        simp [this]
      rw [decide_eq_true rfl, this]
      simp
    · have := nodup_ne (p := p) h2
      rw [decide_eq_false c]
      simp
      exact this
theorem ne_many {p : Str} {xs ys : List Str} (n : xs.Nodup) (h : 4 ≤ xs.length) : 3 ≤ ((xs ++ ys).filter fun z => !decide (z = p)).length := by
  have := nodup_ne (p := p) n
  rw [List.filter_append, List.length_append]
  omega
theorem strs_at_mod {zs : List Str} {a : Int} (hz : 1 ≤ zs.length) : ∃ z ∈ zs, ∃ q : Int, fMod (.int a) (.int (zs.length : Int)) = some (.int q) ∧ atI (zs.map D.str) q = some (.str z) := by
  have g0 := Int.emod_nonneg a (b := (zs.length : Int)) (by omega)
  have g1 := Int.emod_lt_of_pos a (b := (zs.length : Int)) (by omega)
  obtain ⟨z, m, e⟩ := pick_of (f := D.str) (xs := zs) (i := a % (zs.length : Int)) g0 g1
  exact ⟨z, m, a % (zs.length : Int), fMod_ii (by omega), e⟩
abbrev words7 : List Str := ["buy", "spend", "give", "change", "lend", "back", "fix"]
structure DeedIn (zs : List Str) (r p o f : Str) (d n t : Int) (w : Str) : Prop where
  zn : ∀ z ∈ zs, isName z = true
  zl : zs.length = 11
  nr : isName r = true
  np : isName p = true
  no : isName o = true
  nf : isName f = true
  po : p ≠ o
  rf : r ≠ f
  dn : Num d
  d2 : d < 999999999999
  n0 : 0 ≤ n
  tn : 1 ≤ t ∧ Num t
  wm : w ∈ words7
def LD (ns : List Int) (a : Nat) (c m : Int) (zs : List Str) (r p o f : Str) (d n t : Int) (w : Str) : Sl :=
  [some (.v (.lst (ns.map .int))), some (.v (.int a)), some (.v (.int c)), some (.v (.int m)), some (.v (.lst (zs.map .str))), some (.v (.str r)), some (.v (.str p)), some (.v (.str o)), none, some (.v (.str f)), some (.v (.int d)), some (.v (.int n)), some (.v (.int t)), some (.v (.str w)), none, none, none, none]
theorem deed_pre (ns : List Int) {a : Nat} (ha : a ≤ 90) : ∃ (c m : Int) (zs : List Str) (r p o f : Str) (d n t : Int) (w : Str), DeedIn zs r p o f d n t w ∧
    ∀ K : Sl → RS, (sSeq sd_0 (sSeq sd_1 (sSeq sd_2 (sSeq sd_3 (sSeq sd_4 (sSeq sd_5 (sSeq sd_6 (sSeq sd_7 (sSeq sd_8 (sSeq sd_9 (sSeq sd_10 (sSeq sd_11 K)))))))))))) [some (.v (.lst (ns.map .int))), some (.v (.int a)), none, none, none, none, none, none, none, none, none, none, none, none, none, none, none, none] = K (LD ns a c m zs r p o f d n t w) := by
  have a1 := at_ok ns (a : Int) (by omega)
  generalize atZ ns (a : Int) = c at a1
  have a2 := at_ok ns ((a : Int) + 1) (by omega)
  generalize atZ ns ((a : Int) + 1) = c2 at a2
  have m1 := mix_ok c 1 (by omega)
  have mlo := mix_lo c 1
  generalize mixZ c 1 = m at m1 mlo
  obtain ⟨z4, k4, e4⟩ := names_ok c 4 (by omega)
  obtain ⟨z8, k8, e8⟩ := names_ok c2 8 (by omega)
  obtain ⟨zs, ez⟩ : ∃ zs, z4 ++ z8.drop 1 = zs := ⟨_, rfl⟩
  have zl : zs.length = 11 := by rw [← ez, List.length_append, List.length_drop, k4.len, k8.len]
  have zn : ∀ z ∈ zs, isName z = true := fun z mz => by
    rw [← ez] at mz
    rcases List.mem_append.mp mz with h | h
    · exact k4.nm z h
    · exact k8.nm z (List.mem_of_mem_drop h)
  have ec : (z4.map D.str) ++ cut (z8.map D.str) (some 1) none = zs.map D.str := by
    rw [show (1 : Int) = ((1 : Nat) : Int) from rfl, cut_suf_l (by rw [List.length_map, k8.len]; omega), ← List.map_drop, ← List.map_append, ez]
  have fl : ∀ p : Str, 3 ≤ (zs.filter fun z => !decide (z = p)).length := fun p => by rw [← ez]; exact ne_many k4.nd (by rw [k4.len]; omega)
  have fm : ∀ (p : Str) {i : Int}, 0 ≤ i → i < 2 → ∃ z ∈ zs, z ≠ p ∧ atI ((zs.filter fun z => !decide (z = p)).map D.str) i = some (.str z) := fun p {i} h0 h1 => by
    obtain ⟨z, mz, e⟩ := pick_of (f := D.str) (xs := zs.filter fun z => !decide (z = p)) (i := i) h0 (by have := fl p; omega)
    obtain ⟨q1, q2⟩ := List.mem_filter.mp mz
    exact ⟨z, q1, by simpa using q2, e⟩
  have lc4 : (z4.map D.str).length = 4 := by rw [List.length_map, k4.len]
  have lc8 : (cut (z8.map D.str) (some 1) none).length = 7 := by
    have := congrArg List.length ec
    rw [List.length_append, List.length_map, k4.len, List.length_map, zl] at this
    omega
  obtain ⟨r, mr, q1, r1, r2⟩ := strs_at_mod (zs := zs) (a := m / 7) (by omega)
  obtain ⟨p, mp, q2, p1, p2⟩ := strs_at_mod (zs := zs) (a := m / 80) (by omega)
  obtain ⟨o0, mo0, q3, o1, o2⟩ := strs_at_mod (zs := zs) (a := m / 900) (by omega)
  obtain ⟨f, mf, f1, f2⟩ := fm r (i := m / 40 % 2) (by omega) (by omega)
  obtain ⟨o3, mo3, o4, o5⟩ := fm p (i := 0) (by omega) (by omega)
  have m3 := mix_ok c 2 (by omega)
  have m4 := mix_lo c 2
  generalize mixZ c 2 = md at m3 m4
  have m5 := mix_ok c2 3 (by omega)
  have m6 := mix_lo c2 3
  generalize mixZ c2 3 = n at m5 m6
  obtain ⟨d0, hd, ed⟩ := number_ok (m := md) (c := c) m4.1
  obtain ⟨t0, ht, et⟩ := number_ok (m := n) (c := c2) m6.1
  obtain ⟨w, mw, ew⟩ := pick_of (f := D.str) (xs := words7) (i := m % 7) (by omega) (by simp; omega)
  have d7 : fDiv (.int m) (.int 7) = some (.int (m / 7)) := fDiv_ii (by omega)
  have d80 : fDiv (.int m) (.int 80) = some (.int (m / 80)) := fDiv_ii (by omega)
  have d900 : fDiv (.int m) (.int 900) = some (.int (m / 900)) := fDiv_ii (by omega)
  have d40 : fDiv (.int m) (.int 40) = some (.int (m / 40)) := fDiv_ii (by omega)
  have hd1 := hd.1
  have hd2 := hd.2
  have ht1 := ht.1
  have ht2 := ht.2
  have lg : ∀ (x y : D) (o : Option O), lcGo (put 8) (mB (m2 fNe (mVar 8) (mVar 6))) l_x_law_deed_0 [some (.v (.lst (ns.map .int))), some (.v (.int a)), some (.v (.int c)), some (.v (.int m)), some (.v (.lst (zs.map .str))), some (.v (.str r)), some (.v (.str p)), some (.v x), none, none, none, none, none, none, none, none, none, none] (zs.map .str) = .ok ((zs.filter fun z => !decide (z = p)).map .str) := fun x y o =>
    lcGo_filter fun z _ => ⟨[some (.v (.lst (ns.map .int))), some (.v (.int a)), some (.v (.int c)), some (.v (.int m)), some (.v (.lst (zs.map .str))), some (.v (.str r)), some (.v (.str p)), some (.v x), some (.v (.str z)), none, none, none, none, none, none, none, none, none], rfl, by simp, fun _ => by simp [l_x_law_deed_0]⟩
  have lr : ∀ (x : D), lcGo (put 8) (mB (m2 fNe (mVar 8) (mVar 5))) l_x_law_deed_1 [some (.v (.lst (ns.map .int))), some (.v (.int a)), some (.v (.int c)), some (.v (.int m)), some (.v (.lst (zs.map .str))), some (.v (.str r)), some (.v (.str p)), some (.v x), none, none, none, none, none, none, none, none, none, none] (zs.map .str) = .ok ((zs.filter fun z => !decide (z = r)).map .str) := fun x =>
    lcGo_filter fun z _ => ⟨[some (.v (.lst (ns.map .int))), some (.v (.int a)), some (.v (.int c)), some (.v (.int m)), some (.v (.lst (zs.map .str))), some (.v (.str r)), some (.v (.str p)), some (.v x), some (.v (.str z)), none, none, none, none, none, none, none, none, none], rfl, by simp, fun _ => by simp [l_x_law_deed_1]⟩
  obtain ⟨o, mo, ho, s6⟩ : ∃ o ∈ zs, p ≠ o ∧ sd_6 [some (.v (.lst (ns.map .int))), some (.v (.int a)), some (.v (.int c)), some (.v (.int m)), some (.v (.lst (zs.map .str))), some (.v (.str r)), some (.v (.str p)), some (.v (.str o0)), none, none, none, none, none, none, none, none, none, none] = .next [some (.v (.lst (ns.map .int))), some (.v (.int a)), some (.v (.int c)), some (.v (.int m)), some (.v (.lst (zs.map .str))), some (.v (.str r)), some (.v (.str p)), some (.v (.str o)), none, none, none, none, none, none, none, none, none, none] := by
    have lf := lg (.str o0) .non none
    by_cases e : o0 = p
    · subst e
      refine ⟨o3, mo3, Ne.symm o4, ?_⟩
      simp [sd_6, lf, o5, zl]
    · exact ⟨o0, mo0, Ne.symm e, by simp [sd_6, e]⟩
  refine ⟨c, m, zs, r, p, o, f, min (1000000000000 - 2) d0, n, max 1 t0, w, ⟨zn, zl, zn r mr, zn p mp, zn o mo, zn f mf, ho, Ne.symm f1, ⟨by omega, by omega⟩, by omega, m6.1, ⟨by omega, by omega, by omega⟩, mw⟩, fun K => ?_⟩
  have lr2 := lr (.str o)
  have s0 : ∀ K : Sl → RS, (sSeq sd_0 (sSeq sd_1 (sSeq sd_2 (sSeq sd_3 (sSeq sd_4 (sSeq sd_5 K)))))) [some (.v (.lst (ns.map .int))), some (.v (.int a)), none, none, none, none, none, none, none, none, none, none, none, none, none, none, none, none] = K [some (.v (.lst (ns.map .int))), some (.v (.int a)), some (.v (.int c)), some (.v (.int m)), some (.v (.lst (zs.map .str))), some (.v (.str r)), some (.v (.str p)), some (.v (.str o0)), none, none, none, none, none, none, none, none, none, none] := fun K => by
    rw [← zl] at *
    simp at e4 e8 ec lc4 lc8
    simp [sd_0, sd_1, sd_2, sd_3, sd_4, sd_5, a1, a2, m1, e4, e8, ec, lc4, lc8, d7, d80, d900, r1, r2, p1, p2, o1, o2]
  have s7 : ∀ K : Sl → RS, (sSeq sd_7 (sSeq sd_8 (sSeq sd_9 (sSeq sd_10 (sSeq sd_11 K))))) [some (.v (.lst (ns.map .int))), some (.v (.int a)), some (.v (.int c)), some (.v (.int m)), some (.v (.lst (zs.map .str))), some (.v (.str r)), some (.v (.str p)), some (.v (.str o)), none, none, none, none, none, none, none, none, none, none] = K (LD ns a c m zs r p o f (min (1000000000000 - 2) d0) n (max 1 t0) w) := fun K => by
    unfold LD
    simp at ew
    simp [sd_7, sd_8, sd_9, sd_10, sd_11, lr2, f2, d40, m3, ed, a2, m5, et, ew, zl]
  refine Eq.trans (s0 (sSeq sd_6 (sSeq sd_7 (sSeq sd_8 (sSeq sd_9 (sSeq sd_10 (sSeq sd_11 K))))))) ?_
  rw [ap_sSeq, s6, seq_next]
  exact s7 K
theorem strs_py : ∀ zs : List Str, D.pyA (zs.map .str) = some (zs.map .str)
  | [] => rfl
  | z :: zs => by rw [List.map_cons, D.pyA, strs_py zs]; rfl
theorem strs_any {q : Str} : ∀ zs : List Str, ((zs.map PyData.str).any fun y => PyData.eqv y (.str q)) = decide (q ∈ zs)
  | [] => by simp
  | z :: zs => by
    rw [List.map_cons, List.any_cons, strs_any zs]
    have e := Pn.eqv (n := 0) (m := 0) (x := .str z) (y := .str q) .str .str (p := .str z) (q := .str q) rfl rfl
    by_cases c : z = q
    · subst c
      rw [e.mpr rfl]
      simp
    · have : PyData.eqv (.str z) (.str q) = false := by
        cases h : PyData.eqv (.str z) (.str q) with
        | false => rfl
        | true => exact absurd (by have := e.mp h; cases this; rfl) c
      rw [this]
      simp [Ne.symm c]
theorem fNin_strs {q : Str} {zs : List Str} : fNin (.str q) (.lst (zs.map .str)) = some (.bl (!decide (q ∈ zs))) := by
  have h : fNin (.str q) (.lst (zs.map .str)) = (match D.py (.str q), D.pyA (zs.map .str) with
    | some p, some ps => if min (PyData.depthAll ps) p.depth ≤ 64 then some (ps.any fun q => PyData.eqv q p) else none
    | _, _ => none).map fun b => .bl (!b) := rfl
  rw [h, strs_py]
  show (if min (PyData.depthAll (zs.map PyData.str)) (PyData.depth (.str q)) ≤ 64 then some ((zs.map PyData.str).any fun y => PyData.eqv y (.str q)) else none).map _ = _
  rw [if_pos (Nat.le_trans (Nat.min_le_right _ _) (by simp [PyData.depth])), strs_any]
  rfl
theorem nodup_of_inj {α β : Type} {f : α → β} : ∀ {xs : List α}, xs.Nodup → (∀ a ∈ xs, ∀ b ∈ xs, f a = f b → a = b) → (xs.map f).Nodup
  | [], _, _ => by simp
  | x :: xs, h, g => by
    obtain ⟨h1, h2⟩ := List.nodup_cons.mp h
    rw [List.map_cons]
    refine List.nodup_cons.mpr ⟨fun m => ?_, nodup_of_inj h2 fun a ma b mb => g a (List.mem_cons_of_mem _ ma) b (List.mem_cons_of_mem _ mb)⟩
    obtain ⟨y, my, e⟩ := List.mem_map.mp m
    exact h1 (g x List.mem_cons_self y (List.mem_cons_of_mem _ my) e.symm ▸ my)
theorem nodup_un {α β : Type} {f : α → β} : ∀ {xs : List α}, (xs.map f).Nodup → xs.Nodup
  | [], _ => by simp
  | x :: xs, nd => by
    rw [List.map_cons] at nd
    obtain ⟨n1, n2⟩ := List.nodup_cons.mp nd
    exact List.nodup_cons.mpr ⟨fun m => n1 (List.mem_map_of_mem m), nodup_un n2⟩
def unlike (zs : List Str) : List (Str × Nat) := zs.zipIdx.filter fun q => !decide (q.1 ∈ zs.take q.2)
theorem unlike_at {zs : List Str} {q : Str × Nat} (m : q ∈ zs.zipIdx) : ∃ h : q.2 < zs.length, zs[q.2] = q.1 := by
  obtain ⟨z, i⟩ := q
  have := List.mem_zipIdx_iff_getElem?.mp m
  obtain ⟨h, e⟩ := List.getElem?_eq_some_iff.mp this
  exact ⟨h, e⟩
theorem unlike_nd (zs : List Str) : ((unlike zs).map (·.1)).Nodup := by
  have z : zs.zipIdx.Nodup := nodup_un (f := fun q : Str × Nat => q.2) (by
    have := List.zipIdx_map_snd 0 zs
    rw [show (fun q : Str × Nat => q.2) = Prod.snd from rfl, this]
    exact List.nodup_range' (step := 1))
  have no : ∀ a b : Str × Nat, a ∈ unlike zs → b ∈ unlike zs → a.1 = b.1 → ¬ a.2 < b.2 := fun a b ma mb e lt => by
    obtain ⟨a1, a2⟩ := List.mem_filter.mp ma
    obtain ⟨b1, b2⟩ := List.mem_filter.mp mb
    obtain ⟨h, q⟩ := unlike_at a1
    have b3 : b.1 ∉ zs.take b.2 := by simpa using b2
    refine b3 ?_
    rw [← e, ← q]
    refine List.mem_iff_getElem.mpr ⟨a.2, by rw [List.length_take]; omega, ?_⟩
    rw [List.getElem_take]
  refine nodup_of_inj (z.filter _) fun a ma b mb e => ?_
  have n1 := no a b ma mb e
  have n2 := no b a mb ma e.symm
  exact Prod.ext e (by omega)
theorem unlike_mem {zs : List Str} {z : Str} (m : z ∈ (unlike zs).map (·.1)) : z ∈ zs := by
  obtain ⟨q, mq, rfl⟩ := List.mem_map.mp m
  obtain ⟨h, e⟩ := unlike_at (List.mem_filter.mp mq).1
  rw [← e]; exact List.getElem_mem h
theorem nums_strs {zs : List Str} : nums 0 (zs.map .str) = zs.zipIdx.map fun p => D.tup [.int (p.2 : Int), .str p.1] := by
  unfold nums
  rw [List.zipIdx_map, List.map_map]
  rfl
theorem cut_sub {α : Type} {xs : List α} {a b : Option Int} : (cut xs a b).Sublist xs := by
  unfold cut
  exact (List.take_sublist _ _).trans (List.drop_sublist _ _)
theorem cut_le {α : Type} {xs : List α} {n : Nat} : (cut xs none (some (n : Int))).length ≤ n := by
  unfold cut
  rw [HT.sIx_none, HT.sIx_nat, List.length_take]
  omega
theorem w_eq {x y : Str} (h : x = y) : fEq (.str x) (.str y) = some (.bl true) := by rw [fEq_ss, decide_eq_true h]
theorem w_ne {x y : Str} (h : decide (x = y) = false) : fEq (.str x) (.str y) = some (.bl false) := by rw [fEq_ss, h]
theorem deed_ok (ns : List Int) {a : Nat} (ha : a ≤ 90) : ∃ x : Deed, x.Ok ∧ e_x_law_deed.fn [.lst (ns.map .int), .int a] = .ok (.v x.d) := by
  obtain ⟨c, m, zs, r, p, o, f, d, n, t, w, k, run⟩ := deed_pre ns ha
  obtain ⟨zn, zl, nr, np, no, nf, po, rf, dn, d2, n0, tn, wm⟩ := k
  obtain ⟨ls, l1, l2⟩ := some_lines_ok ns (at0 := a + 2) (by omega) (zs := zs) (by omega) zn
  have fin : ∃ x : Deed, x.Ok ∧ ∃ L, (sSeq sd_12 (sSeq sd_13 (sSeq sd_14 (sSeq sd_15 (sSeq sd_16 sd_17))))) (LD ns a c m zs r p o f d n t w) = .ret (.v x.d) L := by
    have l2' : e_x_law_some_lines.fn [.lst (ns.map .int), .int ((a : Int) + 2), .lst (zs.map .str)] = .ok (.v (.tup (ls.map lnD))) := l2
    simp only [words7, List.mem_cons, List.not_mem_nil, or_false] at wm
    rcases wm with rfl | rfl | rfl | rfl | rfl | rfl | rfl
    · refine ⟨.buy r d p ls, ⟨nr, dn, np, l1⟩, LD ns a c m zs r p o f d n t "buy", ?_⟩
      unfold LD
      simp [sd_12, l2', w_eq rfl, Deed.d, Deed.w, Deed.ps, -fEq_ss]
    · obtain ⟨i, ei⟩ : ∃ i : Int, n / 7 % 3 = i := ⟨_, rfl⟩
      obtain ⟨j, ej⟩ : ∃ j : Nat, n / 21 % 9 = j := ⟨(n / 21 % 9).toNat, by omega⟩
      have d7 : fDiv (.int n) (.int 7) = some (.int (n / 7)) := fDiv_ii (by omega)
      have d21 : fDiv (.int n) (.int 21) = some (.int (n / 21)) := fDiv_ii (by omega)
      have sub : (cut (cut ((unlike zs).map (·.1)) (some i) none) none (some (j : Int))).Sublist ((unlike zs).map (·.1)) := cut_sub.trans cut_sub
      have fo : Fst (cut (cut ((unlike zs).map (·.1)) (some i) none) none (some (j : Int))) := ⟨Nat.le_trans cut_le (by omega), fun z mz => zn z (unlike_mem (sub.subset mz)), (unlike_nd zs).sublist sub⟩
      have n1 := w_ne (x := "spend") (y := "buy") (by decide +kernel)
      have lc : lcGo (putTup 2 (putCons (put 15) (putCons (put 8) putNil))) (mB (m2 fNin (mVar 8) (mSl (mVar 4) mNoP (mP (mVar 15))))) l_x_law_deed_2 (LD ns a c m zs r p o f d n t "spend") (zs.zipIdx.map fun p => D.tup [.int (p.2 : Int), .str p.1]) = .ok ((unlike zs).map fun q => D.str q.1) := by
        unfold LD unlike
        refine lcGo_filter fun q mq => ⟨[some (.v (.lst (ns.map .int))), some (.v (.int a)), some (.v (.int c)), some (.v (.int m)), some (.v (.lst (zs.map .str))), some (.v (.str r)), some (.v (.str p)), some (.v (.str o)), some (.v (.str q.1)), some (.v (.str f)), some (.v (.int d)), some (.v (.int n)), some (.v (.int t)), some (.v (.str "spend")), none, some (.v (.int q.2)), none, none], rfl, ?_, fun _ => by simp [l_x_law_deed_2]⟩
        obtain ⟨h, _⟩ := unlike_at mq
        have c1 : cut (zs.map D.str) none (some (q.2 : Int)) = (zs.take q.2).map .str := by rw [cut_pre_l (by rw [List.length_map]; omega), List.map_take]
        have c2 := fNin_strs (q := q.1) (zs := zs.take q.2)
        rw [← c1] at c2
        simp [c2]
      rw [← nums_strs, show ((unlike zs).map fun q => D.str q.1) = ((unlike zs).map (·.1)).map .str by rw [List.map_map]; rfl] at lc
      generalize (unlike zs).map (·.1) = us at lc fo sub
      refine ⟨.spend r d p t (cut (cut us (some i) none) none (some (j : Int))), ⟨nr, dn, np, tn, fo⟩, [some (.v (.lst (ns.map .int))), some (.v (.int a)), some (.v (.int c)), some (.v (.int m)), some (.v (.lst (zs.map .str))), some (.v (.str r)), some (.v (.str p)), some (.v (.str o)), none, some (.v (.str f)), some (.v (.int d)), some (.v (.int n)), some (.v (.int t)), some (.v (.str "spend")), some (.v (.lst (us.map .str))), none, some (.v (.lst ((cut (cut us (some i) none) none (some (j : Int))).map .str))), none], ?_⟩
      have nl : (nums 0 (zs.map D.str)).length ≤ 16777216 := by unfold nums; simp; omega
      unfold LD at lc ⊢
      simp [sd_12, sd_13, n1, w_eq rfl, enum_nums, lc, nl, zl, d7, d21, ei, ej, cut_map, Deed.d, Deed.w, Deed.ps, -fEq_ss]
    · refine ⟨.give r d p o t, ⟨nr, dn, np, no, po, tn⟩, LD ns a c m zs r p o f d n t "give", ?_⟩
      have n1 := w_ne (x := "give") (y := "buy") (by decide +kernel)
      have n2 := w_ne (x := "give") (y := "spend") (by decide +kernel)
      have n3 := w_ne (x := "give") (y := "lend") (by decide +kernel)
      have n4 := w_ne (x := "give") (y := "back") (by decide +kernel)
      have n5 := w_ne (x := "give") (y := "fix") (by decide +kernel)
      unfold LD
      simp [sd_12, sd_13, sd_14, sd_15, sd_16, sd_17, n1, n2, n3, n4, n5, Deed.d, Deed.w, Deed.ps, -fEq_ss]
    · refine ⟨.chg r d p o t, ⟨nr, dn, np, no, po, tn⟩, LD ns a c m zs r p o f d n t "change", ?_⟩
      have n1 := w_ne (x := "change") (y := "buy") (by decide +kernel)
      have n2 := w_ne (x := "change") (y := "spend") (by decide +kernel)
      have n3 := w_ne (x := "change") (y := "lend") (by decide +kernel)
      have n4 := w_ne (x := "change") (y := "back") (by decide +kernel)
      have n5 := w_ne (x := "change") (y := "fix") (by decide +kernel)
      unfold LD
      simp [sd_12, sd_13, sd_14, sd_15, sd_16, sd_17, n1, n2, n3, n4, n5, Deed.d, Deed.w, Deed.ps, -fEq_ss]
    · obtain ⟨e, he, e0, e1⟩ : ∃ e, atI [D.int 0, D.int (n % 50), D.int n] (n / 50 % 3) = some (.int e) ∧ 0 ≤ e ∧ 0 ≤ e := by
        obtain ⟨v, e, q⟩ := pickI (ds := [.int 0, .int (n % 50), .int n]) (i := n / 50 % 3) (ns := [0, n % 50, n]) (P := fun v => 0 ≤ v) rfl (by omega) (by simp; omega) (by
          intro v mv
          simp at mv
          rcases mv with rfl | rfl | rfl <;> omega)
        exact ⟨v, e, q, q⟩
      have d50 : fDiv (.int n) (.int 50) = some (.int (n / 50)) := fDiv_ii (by omega)
      have n1 := w_ne (x := "lend") (y := "buy") (by decide +kernel)
      have n2 := w_ne (x := "lend") (y := "spend") (by decide +kernel)
      refine ⟨.lend r d p o t (min (1000000000000 - 1) (d + 1 + e)), ⟨nr, dn, np, no, po, tn, by omega, by have := dn.1; omega, by omega⟩, [some (.v (.lst (ns.map .int))), some (.v (.int a)), some (.v (.int c)), some (.v (.int m)), some (.v (.lst (zs.map .str))), some (.v (.str r)), some (.v (.str p)), some (.v (.str o)), none, some (.v (.str f)), some (.v (.int d)), some (.v (.int n)), some (.v (.int t)), some (.v (.str "lend")), none, none, none, some (.v (.int (d + 1 + e)))], ?_⟩
      unfold LD
      simp [sd_12, sd_13, sd_14, n1, n2, w_eq rfl, d50, he, Deed.d, Deed.w, Deed.ps, -fEq_ss]
    · refine ⟨.back r d f, ⟨nr, dn, nf, rf⟩, LD ns a c m zs r p o f d n t "back", ?_⟩
      have n1 := w_ne (x := "back") (y := "buy") (by decide +kernel)
      have n2 := w_ne (x := "back") (y := "spend") (by decide +kernel)
      have n3 := w_ne (x := "back") (y := "lend") (by decide +kernel)
      unfold LD
      simp [sd_12, sd_13, sd_14, sd_15, n1, n2, n3, w_eq rfl, Deed.d, Deed.w, Deed.ps, -fEq_ss]
    · refine ⟨.fix r f ls, ⟨nr, nf, rf, l1⟩, LD ns a c m zs r p o f d n t "fix", ?_⟩
      have n1 := w_ne (x := "fix") (y := "buy") (by decide +kernel)
      have n2 := w_ne (x := "fix") (y := "spend") (by decide +kernel)
      have n3 := w_ne (x := "fix") (y := "lend") (by decide +kernel)
      have n4 := w_ne (x := "fix") (y := "back") (by decide +kernel)
      unfold LD
      simp [sd_12, sd_13, sd_14, sd_15, sd_16, n1, n2, n3, n4, w_eq rfl, l2', Deed.d, Deed.w, Deed.ps, -fEq_ss]
  obtain ⟨x, k, L, e⟩ := fin
  refine ⟨x, k, ?_⟩
  simp only [e_x_law_deed, runD, sd_eq, sl0]
  show out _ = _
  refine Eq.trans (congrArg out (run _)) ?_
  rw [e]
  rfl
def numS (i : Int) : Str := (toString i : String)
theorem numS_tl (n : Nat) : (numS (n : Int)).cps.toList = TL.numL n := TL.tl_num n
def FIG : Str := "0123456789"
theorem fig_mem {c : Nat} : c ∈ FIG.cps.toList ↔ 48 ≤ c ∧ c ≤ 57 := by
  have : FIG.cps.toList = [48, 49, 50, 51, 52, 53, 54, 55, 56, 57] := by decide +kernel
  rw [this]
  simp
  omega
def okNum (z : Str) : Bool := decide (1 ≤ z.length) && decide (z.length ≤ 12) && !(decide (1 < z.length) && decide (z.cps.toList.getD 0 0 = 48)) && z.cps.toList.all fun c => decide (c ∈ FIG.cps.toList)
theorem num_loop {z : Str} : ∀ {cs : List Nat} {x : Option D},
    (cs.all (fun c => decide (c ∈ FIG.cps.toList)) = true → ∃ x' : Option D, forGo (put 1) b_number_of_0 [some (.v (.str z)), x.map .v] (cs.map fun c => D.str ⟨#[c]⟩) = .next [some (.v (.str z)), Option.map .v x']) ∧
    (cs.all (fun c => decide (c ∈ FIG.cps.toList)) = false → ∃ L, forGo (put 1) b_number_of_0 [some (.v (.str z)), x.map .v] (cs.map fun c => D.str ⟨#[c]⟩) = .exc "BadDeed" L)
  | [], x => ⟨fun _ => ⟨x, rfl⟩, fun h => by cases h⟩
  | c :: cs, x => by
    obtain ⟨g1, g2⟩ := num_loop (z := z) (cs := cs) (x := some (.str ⟨#[c]⟩))
    have fn : fNin (.str ⟨#[c]⟩) (.str FIG) = some (.bl (!decide (c ∈ FIG.cps.toList))) := fNin_1
    unfold FIG at fn
    have t : put 1 (.str ⟨#[c]⟩) [some (.v (.str z)), x.map .v] = some [some (.v (.str z)), some (.v (.str ⟨#[c]⟩))] := by simp
    rw [List.all_cons, List.map_cons]
    by_cases d : c ∈ FIG.cps.toList
    · have b : b_number_of_0 [some (.v (.str z)), some (.v (.str ⟨#[c]⟩))] = .next [some (.v (.str z)), some (.v (.str ⟨#[c]⟩))] := by
        rw [decide_eq_true (show c ∈ ("0123456789" : Str).cps.toList from d)] at fn
        simp [b_number_of_0, fn]
      rw [forGo_step t b, decide_eq_true d, Bool.true_and]
      exact ⟨g1, g2⟩
    · have b : b_number_of_0 [some (.v (.str z)), some (.v (.str ⟨#[c]⟩))] = .exc "BadDeed" [some (.v (.str z)), some (.v (.str ⟨#[c]⟩))] := by
        rw [decide_eq_false (show c ∉ ("0123456789" : Str).cps.toList from d)] at fn
        simp [b_number_of_0, fn]
      refine ⟨fun h => ?_, fun _ => ⟨[some (.v (.str z)), some (.v (.str ⟨#[c]⟩))], ?_⟩⟩
      · rw [decide_eq_false d, Bool.false_and] at h; cases h
      · rw [forGo, t]; dsimp only; rw [b]
theorem num_int {z : Str} (h : okNum z = true) : ∃ n : Nat, intText? z = some (n : Int) := by
  unfold okNum at h
  simp only [Bool.and_eq_true, decide_eq_true_eq] at h
  obtain ⟨⟨⟨h1, h2⟩, h3⟩, h4⟩ := h
  have dig : NumText.AllDigits z.cps.toList := fun c hc => by
    have := List.all_eq_true.mp h4 c hc
    exact fig_mem.mp (of_decide_eq_true this)
  exact ⟨_, intText_digits dig (fun e => by have : z.length = z.cps.toList.length := rfl; rw [e] at this; simp at this; omega) (by omega)⟩
theorem num_ok {z : Str} {n : Int} (h : okNum z = true) (e : intText? z = some n) : e_number_of.fn [.str z] = .ok (.v (.int n)) := by
  unfold okNum at h
  simp only [Bool.and_eq_true, decide_eq_true_eq, Bool.not_eq_true'] at h
  obtain ⟨⟨⟨h1, h2⟩, h3⟩, h4⟩ := h
  obtain ⟨x', lp⟩ := (num_loop (z := z) (cs := z.cps.toList) (x := none)).1 h4
  have f : fIntS [.str z] = some (.int n) := by
    unfold fIntS
    dsimp only
    rw [if_pos (by omega), e]
    rfl
  have i0 : fIx (.str z) (.int 0) = some (.str (sgn z 0)) := fIx_sn (by omega) (by omega) (by omega)
  have q0 : decide ((z.length : Int) > 1) = true → fEq (.str (sgn z 0)) (.str "0") = some (.bl false) := fun g => by
    refine w_ne (decide_eq_false fun q => ?_)
    have g' : 1 < z.length := by have := of_decide_eq_true g; omega
    rw [decide_eq_true g', Bool.true_and, decide_eq_false_iff_not] at h3
    refine h3 ?_
    have : (sgn z 0).cps.toList = ("0" : Str).cps.toList := by rw [q]
    have e0 : ("0" : Str).cps.toList = [48] := by decide +kernel
    rw [e0] at this
    unfold sgn at this
    simpa using this
  have sg : signs z = z.cps.toList.map fun c => D.str ⟨#[c]⟩ := rfl
  simp only [e_number_of, runD, m_number_of, sl0]
  rw [← sg] at lp
  simp at lp
  by_cases c : 1 < z.length
  · have q1 := q0 (decide_eq_true (by omega))
    simp [i0, q1, f, lp, show z.length ≤ 16777216 by omega, show (1 : Int) ≤ z.length by omega, show ¬ (z.length : Int) < 1 by omega, show ¬ (12 : Int) < z.length by omega, show (z.length : Int) ≤ 12 by omega, show (1 : Int) < z.length by omega, -fEq_ss]
  · simp [f, lp, show z.length ≤ 16777216 by omega, show (1 : Int) ≤ z.length by omega, show ¬ (z.length : Int) < 1 by omega, show ¬ (12 : Int) < z.length by omega, show (z.length : Int) ≤ 12 by omega, show ¬ (1 : Int) < z.length by omega]
theorem num_no {z : Str} (hz : z.length ≤ 1000000) (h : okNum z = false) : e_number_of.fn [.str z] = .exc "BadDeed" := by
  have sg : signs z = z.cps.toList.map fun c => D.str ⟨#[c]⟩ := rfl
  simp only [e_number_of, runD, m_number_of, sl0]
  by_cases c1 : 1 ≤ z.length
  · by_cases c2 : z.length ≤ 12
    · have i0 : fIx (.str z) (.int 0) = some (.str (sgn z 0)) := fIx_sn (by omega) (by omega) (by omega)
      by_cases c3 : 1 < z.length ∧ z.cps.toList.getD 0 0 = 48
      · have q1 : fEq (.str (sgn z 0)) (.str "0") = some (.bl true) := w_eq (by
          unfold sgn
          rw [show (0 : Int).toNat = 0 from rfl, c3.2]
          decide +kernel)
        simp [i0, q1, show z.length ≤ 16777216 by omega, show (1 : Int) ≤ z.length by omega, show ¬ (z.length : Int) < 1 by omega, show ¬ (12 : Int) < z.length by omega, show (z.length : Int) ≤ 12 by omega, show (1 : Int) < z.length by omega, -fEq_ss]
      · have c4 : (z.cps.toList.all fun c => decide (c ∈ FIG.cps.toList)) = false := by
          unfold okNum at h
          have : (decide (1 < z.length) && decide (z.cps.toList.getD 0 0 = 48)) = false := by
            rw [← Bool.decide_and, decide_eq_false c3]
          rw [decide_eq_true c1, decide_eq_true c2, this] at h
          simpa using h
        obtain ⟨L, lp⟩ := (num_loop (z := z) (cs := z.cps.toList) (x := none)).2 c4
        rw [← sg] at lp
        simp at lp
        by_cases c : 1 < z.length
        · have q1 : fEq (.str (sgn z 0)) (.str "0") = some (.bl false) := w_ne (decide_eq_false fun q => c3 ⟨c, by
            have : (sgn z 0).cps.toList = ("0" : Str).cps.toList := by rw [q]
            have e0 : ("0" : Str).cps.toList = [48] := by decide +kernel
            rw [e0] at this
            unfold sgn at this
            simpa using this⟩)
          simp [i0, q1, lp, show z.length ≤ 16777216 by omega, show (1 : Int) ≤ z.length by omega, show ¬ (z.length : Int) < 1 by omega, show ¬ (12 : Int) < z.length by omega, show (z.length : Int) ≤ 12 by omega, show (1 : Int) < z.length by omega, -fEq_ss]
        · simp [lp, show z.length ≤ 16777216 by omega, show (1 : Int) ≤ z.length by omega, show ¬ (z.length : Int) < 1 by omega, show ¬ (12 : Int) < z.length by omega, show (z.length : Int) ≤ 12 by omega, show ¬ (1 : Int) < z.length by omega]
    · simp [show z.length ≤ 16777216 by omega, show (1 : Int) ≤ z.length by omega, show ¬ (z.length : Int) < 1 by omega, show (12 : Int) < z.length by omega, show ¬ (z.length : Int) ≤ 12 by omega]
  · simp [show z.length ≤ 16777216 by omega, show ¬ (1 : Int) ≤ z.length by omega, show (z.length : Int) < 1 by omega]
theorem numL_head (n : Nat) (h : 1 ≤ n) : (TL.numL n).getD 0 0 ≠ 48 := by
  induction n using Nat.strongRecOn with
  | _ n ih =>
    by_cases c : n < 10
    · rw [TL.numL_lt c]; simp; omega
    · rw [TL.numL_step (by omega)]
      have := ih (n / 10) (by omega) (by omega)
      have ne := TL.numL_ne (n / 10)
      match q : TL.numL (n / 10), ne with
      | a :: r, _ => rw [q] at this; exact this
theorem num_okS {i : Int} (h : Num i) : okNum (numS i) = true ∧ intText? (numS i) = some i := by
  obtain ⟨h1, h2⟩ := h
  obtain ⟨n, rfl⟩ : ∃ n : Nat, i = n := ⟨i.toNat, by omega⟩
  have hn : n < 10 ^ 12 := by omega
  have l := TL.numL_len (n := n) (k := 12) (by omega) hn
  have tl := numS_tl n
  have ln : (numS (n : Int)).length = (TL.numL n).length := by
    have : (numS (n : Int)).length = (numS (n : Int)).cps.toList.length := rfl
    rw [this, tl]
  have l1 : 1 ≤ (TL.numL n).length := by
    have := TL.numL_ne n
    match q : TL.numL n, this with
    | a :: r, _ => simp
  refine ⟨?_, TL.int_num (by omega)⟩
  unfold okNum
  rw [ln, tl]
  have d : ((TL.numL n).all fun c => decide (c ∈ FIG.cps.toList)) = true := List.all_eq_true.mpr fun c hc => decide_eq_true (fig_mem.mpr (TL.numL_digits n c hc))
  rw [d, decide_eq_true l1, decide_eq_true l]
  by_cases c : n < 10
  · rw [TL.numL_lt c]; simp
  · have := numL_head n (by omega)
    rw [decide_eq_false this]
    simp
theorem number_of_ok {i : Int} (h : Num i) : e_number_of.fn [.str (numS i)] = .ok (.v (.int i)) := num_ok (num_okS h).1 (num_okS h).2
noncomputable def sf_0 : Sl → RS := (sSet 1 (m2 fIx (mVar 0) (mC (.int 0))))
noncomputable def sf_1 : Sl → RS := (sIf (mB (m2 fEq (mVar 1) (mC (.str "fix")))) (sRet (m2 fAdd (m2 fAdd (mTup (mCons (mVar 1) mNil)) (mF fTuple (mCons (mSl (mVar 0) (mP (mC (.int 1))) (mP (mC (.int 3)))) mNil))) (mTup (mCons (mFr (mCall e_lines_of.fn (mCons (mSl (mVar 0) (mP (mC (.int 3))) mNoP) mNil))) mNil)))) sNext)
noncomputable def sf_2 : Sl → RS := (sSet 2 (mTup (mCons (mVar 1) (mCons (m2 fIx (mVar 0) (mC (.int 1))) (mCons (mFr (mCall e_number_of.fn (mCons (m2 fIx (mVar 0) (mC (.int 2))) mNil))) mNil)))))
noncomputable def sf_3 : Sl → RS := (sIf (mB (m2 fEq (mVar 1) (mC (.str "buy")))) (sRet (m2 fAdd (mVar 2) (mTup (mCons (m2 fIx (mVar 0) (mC (.int 3))) (mCons (mFr (mCall e_lines_of.fn (mCons (mSl (mVar 0) (mP (mC (.int 4))) mNoP) mNil))) mNil))))) sNext)
noncomputable def sf_4 : Sl → RS := (sIf (mB (m2 fEq (mVar 1) (mC (.str "spend")))) (sRet (m2 fAdd (mVar 2) (mTup (mCons (m2 fIx (mVar 0) (mC (.int 3))) (mCons (mFr (mCall e_number_of.fn (mCons (m2 fIx (mVar 0) (mC (.int 4))) mNil))) (mCons (mF fTuple (mCons (mSl (mVar 0) (mP (mC (.int 5))) mNoP) mNil)) mNil)))))) sNext)
noncomputable def sf_5 : Sl → RS := (sIf (mB (m2 fIn (mVar 1) (mTup (mCons (mC (.str "give")) (mCons (mC (.str "change")) (mCons (mC (.str "lend")) mNil)))))) (sRet (m2 fAdd (m2 fAdd (mVar 2) (mF fTuple (mCons (mSl (mVar 0) (mP (mC (.int 3))) (mP (mC (.int 5)))) mNil))) (mF fTuple (mCons (mFr (mLcE (mIt (mSl (mVar 0) (mP (mC (.int 5))) mNoP)) [3] (put 3) l_deed_of_0)) mNil)))) sNext)
noncomputable def sf_6 : Sl → RS := (sRet (m2 fAdd (mVar 2) (mF fTuple (mCons (mSl (mVar 0) (mP (mC (.int 3))) mNoP) mNil))))
theorem sf_eq : m_deed_of = (sSeq sf_0 (sSeq sf_1 (sSeq sf_2 (sSeq sf_3 (sSeq sf_4 (sSeq sf_5 sf_6)))))) := rfl
def lnW (l : List (Str × Int)) : List Str := l.flatMap fun p => [p.1, numS p.2]
def Deed.ws : Deed → List Str
  | .buy r d p l => "buy" :: r :: numS d :: p :: lnW l
  | .spend r d p n f => "spend" :: r :: numS d :: p :: numS n :: f
  | .give r d p o n => ["give", r, numS d, p, o, numS n]
  | .chg r d p o n => ["change", r, numS d, p, o, numS n]
  | .lend r d p o n e => ["lend", r, numS d, p, o, numS n, numS e]
  | .back r d o => ["back", r, numS d, o]
  | .fix r o l => "fix" :: r :: o :: lnW l
theorem lnW_len (l : List (Str × Int)) : (lnW l).length = 2 * l.length := by
  unfold lnW
  induction l with
  | nil => rfl
  | cons p l ih => rw [List.flatMap_cons, List.length_append, ih]; simp; omega
theorem lnW_at : ∀ {l : List (Str × Int)} {k : Nat} (h : k < l.length), (lnW l)[2 * k]? = some l[k].1 ∧ (lnW l)[2 * k + 1]? = some (numS l[k].2)
  | p :: l, 0, _ => ⟨rfl, rfl⟩
  | p :: l, k + 1, h => by
    have := lnW_at (l := l) (k := k) (by simpa using h)
    exact this
theorem lines_of_ok {l : List (Str × Int)} (h : Lns l) : e_lines_of.fn [.lst ((lnW l).map .str)] = .ok (.v (.tup (l.map lnD))) := by
  have hi := h.hi
  have ll := lnW_len l
  have lc : lcGo (put 1) mYes l_lines_of_0 [some (.v (.lst ((lnW l).map .str))), none] (rngC 0 2 l.length) = .ok (l.map lnD) := by
    have e : l.map lnD = (List.range l.length).map fun k => lnD (l.getD k ("", 0)) := by
      refine List.ext_getElem (by simp) fun k h1 h2 => ?_
      simp at h1 h2
      simp [List.getD_eq_getElem?_getD, List.getElem?_eq_getElem h1]
    rw [e]
    unfold rngC
    refine lcGo_map fun k mk => ?_
    have hk := List.mem_range.mp mk
    obtain ⟨w1, w2⟩ := lnW_at hk
    have a1 : atI ((lnW l).map D.str) ((2 * k : Nat) : Int) = some (.str l[k].1) := at_lit (by rw [List.getElem?_map, w1]; rfl)
    have a2 : atI ((lnW l).map D.str) ((2 * k + 1 : Nat) : Int) = some (.str (numS l[k].2)) := at_lit (by rw [List.getElem?_map, w2]; rfl)
    have i1 : (0 + (k : Int) * 2) = ((2 * k : Nat) : Int) := by omega
    have i2 : ((2 * k : Nat) : Int) + 1 = ((2 * k + 1 : Nat) : Int) := by omega
    have nk := number_of_ok (h.ok _ (List.getElem_mem hk)).2
    refine ⟨[some (.v (.lst ((lnW l).map .str))), some (.v (.int ((2 * k : Nat) : Int)))], by rw [i1]; rfl, ?_⟩
    have g : l.getD k ("", 0) = l[k] := by rw [List.getD_eq_getElem?_getD, List.getElem?_eq_getElem hk]; rfl
    rw [g]
    generalize l[k] = q at a1 a2 nk
    generalize hn : ((2 * k : Nat) : Int) = j at a1 i2
    generalize ((2 * k + 1 : Nat) : Int) = j2 at a2 i2
    simp [l_lines_of_0, a1, i2, a2, nk, lnD]
  obtain ⟨n, hn⟩ : ∃ n : Int, ((lnW l).length : Int) = n := ⟨_, rfl⟩
  have fm : fMod (.int ((lnW l).length : Int)) (.int 2) = some (.int 0) := by rw [fMod_ii (by omega)]; congr 2; omega
  have r3 : rng3 (.int 0) (.int ((lnW l).length : Int)) (.int 2) = some (rngC 0 2 l.length) := by
    rw [rng3_ok (by omega)]
    congr 2
    unfold stepN
    rw [if_neg (by omega)]
    split <;> omega
  have lr : (rngC 0 2 l.length).length ≤ 16777216 := by unfold rngC; simp; omega
  simp only [e_lines_of, runD, m_lines_of, sl0]
  generalize rngC 0 2 l.length = rg at lc r3 lr
  generalize lnW l = ws at *
  simp [fm, r3, lc, lr]
theorem in_tups {q : Str} {zs : List Str} : fIn (.str q) (.tup (zs.map .str)) = some (.bl (decide (q ∈ zs))) := by
  have h : fIn (.str q) (.tup (zs.map .str)) = (match D.py (.str q), D.pyA (zs.map .str) with
    | some p, some ps => if min (PyData.depthAll ps) p.depth ≤ 64 then some (ps.any fun q => PyData.eqv q p) else none
    | _, _ => none).map fun b => .bl b := rfl
  rw [h, strs_py]
  show (if min (PyData.depthAll (zs.map PyData.str)) (PyData.depth (.str q)) ≤ 64 then some ((zs.map PyData.str).any fun y => PyData.eqv y (.str q)) else none).map _ = _
  rw [if_pos (Nat.le_trans (Nat.min_le_right _ _) (by simp [PyData.depth])), strs_any]
  rfl
theorem deed_of_ok {x : Deed} (k : x.Ok) : e_deed_of.fn [.lst (x.ws.map .str)] = .ok (.v x.d) := by
  simp only [e_deed_of, runD, sf_eq, sl0]
  cases x with
  | buy r d p l =>
    have q0 := w_ne (x := "buy") (y := "fix") (by decide +kernel)
    have q1 := w_eq (x := "buy") (y := "buy") rfl
    have q2 := w_ne (x := "buy") (y := "spend") (by decide +kernel)
    have q3 : fIn (.str "buy") (.tup [.str "give", .str "change", .str "lend"]) = some (.bl false) := by
      have := in_tups (q := "buy") (zs := ["give", "change", "lend"])
      rw [show decide (("buy" : Str) ∈ (["give", "change", "lend"] : List Str)) = false by decide +kernel] at this
      exact this
    have a0 : atI (D.str "buy" :: .str r :: .str (numS d) :: .str p :: (lnW l).map D.str : List D) 0 = some (.str "buy") := at_lit (n := 0) rfl
    have a1 : atI (D.str "buy" :: .str r :: .str (numS d) :: .str p :: (lnW l).map D.str : List D) 1 = some (.str (r)) := at_lit (n := 1) rfl
    have a2 : atI (D.str "buy" :: .str r :: .str (numS d) :: .str p :: (lnW l).map D.str : List D) 2 = some (.str (numS d)) := at_lit (n := 2) rfl
    have a3 : atI (D.str "buy" :: .str r :: .str (numS d) :: .str p :: (lnW l).map D.str : List D) 3 = some (.str (p)) := at_lit (n := 3) rfl
    have nd := number_of_ok (i := d) k.2.1
    have ll := lines_of_ok k.2.2.2
    have c4 : cut (D.str "buy" :: .str r :: .str (numS d) :: .str p :: (lnW l).map D.str : List D) (some 4) none = (lnW l).map D.str := by rw [show (4 : Int) = ((4 : Nat) : Int) from rfl, cut_suf_l (by simp)]; rfl
    have e : (Deed.ws (.buy r d p l)).map D.str = (D.str "buy" :: .str r :: .str (numS d) :: .str p :: (lnW l).map D.str) := rfl
    rw [e]
    have hl := k.2.2.2.hi
    have hl2 := lnW_len l
    simp [sf_0, sf_1, sf_2, sf_3, sf_4, sf_5, sf_6, q0, q1, q2, q3, a0, a1, a2, a3, nd, ll, c4, Deed.d, Deed.w, Deed.ps, -fEq_ss]
  | spend r d p n f =>
    have q0 := w_ne (x := "spend") (y := "fix") (by decide +kernel)
    have q1 := w_ne (x := "spend") (y := "buy") (by decide +kernel)
    have q2 := w_eq (x := "spend") (y := "spend") rfl
    have q3 : fIn (.str "spend") (.tup [.str "give", .str "change", .str "lend"]) = some (.bl false) := by
      have := in_tups (q := "spend") (zs := ["give", "change", "lend"])
      rw [show decide (("spend" : Str) ∈ (["give", "change", "lend"] : List Str)) = false by decide +kernel] at this
      exact this
    have a0 : atI (D.str "spend" :: .str r :: .str (numS d) :: .str p :: .str (numS n) :: f.map D.str : List D) 0 = some (.str "spend") := at_lit (n := 0) rfl
    have a1 : atI (D.str "spend" :: .str r :: .str (numS d) :: .str p :: .str (numS n) :: f.map D.str : List D) 1 = some (.str (r)) := at_lit (n := 1) rfl
    have a2 : atI (D.str "spend" :: .str r :: .str (numS d) :: .str p :: .str (numS n) :: f.map D.str : List D) 2 = some (.str (numS d)) := at_lit (n := 2) rfl
    have a3 : atI (D.str "spend" :: .str r :: .str (numS d) :: .str p :: .str (numS n) :: f.map D.str : List D) 3 = some (.str (p)) := at_lit (n := 3) rfl
    have a4 : atI (D.str "spend" :: .str r :: .str (numS d) :: .str p :: .str (numS n) :: f.map D.str : List D) 4 = some (.str (numS n)) := at_lit (n := 4) rfl
    have nd := number_of_ok (i := d) k.2.1
    have nn := number_of_ok (i := n) k.2.2.2.1.2
    have c5 : cut (D.str "spend" :: .str r :: .str (numS d) :: .str p :: .str (numS n) :: f.map D.str : List D) (some 5) none = f.map D.str := by rw [show (5 : Int) = ((5 : Nat) : Int) from rfl, cut_suf_l (by simp)]; rfl
    have fl := k.2.2.2.2.hi
    have e : (Deed.ws (.spend r d p n f)).map D.str = (D.str "spend" :: .str r :: .str (numS d) :: .str p :: .str (numS n) :: f.map D.str) := rfl
    rw [e]
    skip
    skip
    simp [sf_0, sf_1, sf_2, sf_3, sf_4, sf_5, sf_6, q0, q1, q2, q3, a0, a1, a2, a3, a4, nd, nn, c5, Deed.d, Deed.w, Deed.ps, -fEq_ss, show f.length ≤ 16777212 by omega]
  | give r d p o n =>
    have q0 := w_ne (x := "give") (y := "fix") (by decide +kernel)
    have q1 := w_ne (x := "give") (y := "buy") (by decide +kernel)
    have q2 := w_ne (x := "give") (y := "spend") (by decide +kernel)
    have q3 : fIn (.str "give") (.tup [.str "give", .str "change", .str "lend"]) = some (.bl true) := by
      have := in_tups (q := "give") (zs := ["give", "change", "lend"])
      rw [show decide (("give" : Str) ∈ (["give", "change", "lend"] : List Str)) = true by decide +kernel] at this
      exact this
    have a0 : atI (D.str "give" :: [D.str r, .str (numS d), .str p, .str o, .str (numS n)] : List D) 0 = some (.str "give") := at_lit (n := 0) rfl
    have a1 : atI (D.str "give" :: [D.str r, .str (numS d), .str p, .str o, .str (numS n)] : List D) 1 = some (.str (r)) := at_lit (n := 1) rfl
    have a2 : atI (D.str "give" :: [D.str r, .str (numS d), .str p, .str o, .str (numS n)] : List D) 2 = some (.str (numS d)) := at_lit (n := 2) rfl
    have a3 : atI (D.str "give" :: [D.str r, .str (numS d), .str p, .str o, .str (numS n)] : List D) 3 = some (.str (p)) := at_lit (n := 3) rfl
    have a4 : atI (D.str "give" :: [D.str r, .str (numS d), .str p, .str o, .str (numS n)] : List D) 4 = some (.str (o)) := at_lit (n := 4) rfl
    have a5 : atI (D.str "give" :: [D.str r, .str (numS d), .str p, .str o, .str (numS n)] : List D) 5 = some (.str (numS n)) := at_lit (n := 5) rfl
    have nd := number_of_ok (i := d) k.2.1
    have nn := number_of_ok (i := n) k.2.2.2.2.2.2
    have c3 : cut (D.str "give" :: [D.str r, .str (numS d), .str p, .str o, .str (numS n)] : List D) (some 3) (some 5) = [.str p, .str o] := rfl
    have c5 : cut (D.str "give" :: [D.str r, .str (numS d), .str p, .str o, .str (numS n)] : List D) (some 5) none = [.str (numS n)] := rfl
    have lc : ∀ a b c : Option O, lcGo (put 3) mYes l_deed_of_0 [a, b, c, none] [.str (numS n)] = .ok [.int n] := fun a b c => by
      have := lcGo_map (tg := put 3) (el := l_deed_of_0) (L := [a, b, c, none]) (f := fun i : Int => .str (numS i)) (g := .int) (xs := [n]) fun i mi => by
        refine ⟨[a, b, c, some (.v (.str (numS i)))], rfl, ?_⟩
        have : e_number_of.fn [.str (numS i)] = .ok (.v (.int i)) := by
          simp at mi
          subst mi
          · exact nn

        simp [l_deed_of_0, this]
      exact this
    have e : (Deed.ws (.give r d p o n)).map D.str = (D.str "give" :: [D.str r, .str (numS d), .str p, .str o, .str (numS n)]) := rfl
    rw [e]
    skip
    skip
    simp [sf_0, sf_1, sf_2, sf_3, sf_4, sf_5, sf_6, q0, q1, q2, q3, a0, a1, a2, a3, a4, a5, nd, nn, c3, c5, lc, Deed.d, Deed.w, Deed.ps, -fEq_ss]
  | chg r d p o n =>
    have q0 := w_ne (x := "change") (y := "fix") (by decide +kernel)
    have q1 := w_ne (x := "change") (y := "buy") (by decide +kernel)
    have q2 := w_ne (x := "change") (y := "spend") (by decide +kernel)
    have q3 : fIn (.str "change") (.tup [.str "give", .str "change", .str "lend"]) = some (.bl true) := by
      have := in_tups (q := "change") (zs := ["give", "change", "lend"])
      rw [show decide (("change" : Str) ∈ (["give", "change", "lend"] : List Str)) = true by decide +kernel] at this
      exact this
    have a0 : atI (D.str "change" :: [D.str r, .str (numS d), .str p, .str o, .str (numS n)] : List D) 0 = some (.str "change") := at_lit (n := 0) rfl
    have a1 : atI (D.str "change" :: [D.str r, .str (numS d), .str p, .str o, .str (numS n)] : List D) 1 = some (.str (r)) := at_lit (n := 1) rfl
    have a2 : atI (D.str "change" :: [D.str r, .str (numS d), .str p, .str o, .str (numS n)] : List D) 2 = some (.str (numS d)) := at_lit (n := 2) rfl
    have a3 : atI (D.str "change" :: [D.str r, .str (numS d), .str p, .str o, .str (numS n)] : List D) 3 = some (.str (p)) := at_lit (n := 3) rfl
    have a4 : atI (D.str "change" :: [D.str r, .str (numS d), .str p, .str o, .str (numS n)] : List D) 4 = some (.str (o)) := at_lit (n := 4) rfl
    have a5 : atI (D.str "change" :: [D.str r, .str (numS d), .str p, .str o, .str (numS n)] : List D) 5 = some (.str (numS n)) := at_lit (n := 5) rfl
    have nd := number_of_ok (i := d) k.2.1
    have nn := number_of_ok (i := n) k.2.2.2.2.2.2
    have c3 : cut (D.str "change" :: [D.str r, .str (numS d), .str p, .str o, .str (numS n)] : List D) (some 3) (some 5) = [.str p, .str o] := rfl
    have c5 : cut (D.str "change" :: [D.str r, .str (numS d), .str p, .str o, .str (numS n)] : List D) (some 5) none = [.str (numS n)] := rfl
    have lc : ∀ a b c : Option O, lcGo (put 3) mYes l_deed_of_0 [a, b, c, none] [.str (numS n)] = .ok [.int n] := fun a b c => by
      have := lcGo_map (tg := put 3) (el := l_deed_of_0) (L := [a, b, c, none]) (f := fun i : Int => .str (numS i)) (g := .int) (xs := [n]) fun i mi => by
        refine ⟨[a, b, c, some (.v (.str (numS i)))], rfl, ?_⟩
        have : e_number_of.fn [.str (numS i)] = .ok (.v (.int i)) := by
          simp at mi
          subst mi
          · exact nn

        simp [l_deed_of_0, this]
      exact this
    have e : (Deed.ws (.chg r d p o n)).map D.str = (D.str "change" :: [D.str r, .str (numS d), .str p, .str o, .str (numS n)]) := rfl
    rw [e]
    skip
    skip
    simp [sf_0, sf_1, sf_2, sf_3, sf_4, sf_5, sf_6, q0, q1, q2, q3, a0, a1, a2, a3, a4, a5, nd, nn, c3, c5, lc, Deed.d, Deed.w, Deed.ps, -fEq_ss]
  | lend r d p o n e =>
    have q0 := w_ne (x := "lend") (y := "fix") (by decide +kernel)
    have q1 := w_ne (x := "lend") (y := "buy") (by decide +kernel)
    have q2 := w_ne (x := "lend") (y := "spend") (by decide +kernel)
    have q3 : fIn (.str "lend") (.tup [.str "give", .str "change", .str "lend"]) = some (.bl true) := by
      have := in_tups (q := "lend") (zs := ["give", "change", "lend"])
      rw [show decide (("lend" : Str) ∈ (["give", "change", "lend"] : List Str)) = true by decide +kernel] at this
      exact this
    have a0 : atI (D.str "lend" :: [D.str r, .str (numS d), .str p, .str o, .str (numS n), .str (numS e)] : List D) 0 = some (.str "lend") := at_lit (n := 0) rfl
    have a1 : atI (D.str "lend" :: [D.str r, .str (numS d), .str p, .str o, .str (numS n), .str (numS e)] : List D) 1 = some (.str (r)) := at_lit (n := 1) rfl
    have a2 : atI (D.str "lend" :: [D.str r, .str (numS d), .str p, .str o, .str (numS n), .str (numS e)] : List D) 2 = some (.str (numS d)) := at_lit (n := 2) rfl
    have a3 : atI (D.str "lend" :: [D.str r, .str (numS d), .str p, .str o, .str (numS n), .str (numS e)] : List D) 3 = some (.str (p)) := at_lit (n := 3) rfl
    have a4 : atI (D.str "lend" :: [D.str r, .str (numS d), .str p, .str o, .str (numS n), .str (numS e)] : List D) 4 = some (.str (o)) := at_lit (n := 4) rfl
    have a5 : atI (D.str "lend" :: [D.str r, .str (numS d), .str p, .str o, .str (numS n), .str (numS e)] : List D) 5 = some (.str (numS n)) := at_lit (n := 5) rfl
    have a6 : atI (D.str "lend" :: [D.str r, .str (numS d), .str p, .str o, .str (numS n), .str (numS e)] : List D) 6 = some (.str (numS e)) := at_lit (n := 6) rfl
    have nd := number_of_ok (i := d) k.2.1
    have nn := number_of_ok (i := n) k.2.2.2.2.2.1.2
    have c3 : cut (D.str "lend" :: [D.str r, .str (numS d), .str p, .str o, .str (numS n), .str (numS e)] : List D) (some 3) (some 5) = [.str p, .str o] := rfl
    have c5 : cut (D.str "lend" :: [D.str r, .str (numS d), .str p, .str o, .str (numS n), .str (numS e)] : List D) (some 5) none = [.str (numS n), .str (numS e)] := rfl
    have ne := number_of_ok (i := e) k.2.2.2.2.2.2.2
    have lc : ∀ a b c : Option O, lcGo (put 3) mYes l_deed_of_0 [a, b, c, none] [.str (numS n), .str (numS e)] = .ok [.int n, .int e] := fun a b c => by
      have := lcGo_map (tg := put 3) (el := l_deed_of_0) (L := [a, b, c, none]) (f := fun i : Int => .str (numS i)) (g := .int) (xs := [n, e]) fun i mi => by
        refine ⟨[a, b, c, some (.v (.str (numS i)))], rfl, ?_⟩
        have : e_number_of.fn [.str (numS i)] = .ok (.v (.int i)) := by
          simp at mi
          rcases mi with rfl | rfl
          · exact nn
          · exact ne
        simp [l_deed_of_0, this]
      exact this
    have e : (Deed.ws (.lend r d p o n e)).map D.str = (D.str "lend" :: [D.str r, .str (numS d), .str p, .str o, .str (numS n), .str (numS e)]) := rfl
    rw [e]
    skip
    skip
    simp [sf_0, sf_1, sf_2, sf_3, sf_4, sf_5, sf_6, q0, q1, q2, q3, a0, a1, a2, a3, a4, a5, a6, nd, nn, c3, c5, lc, Deed.d, Deed.w, Deed.ps, -fEq_ss]
  | back r d o =>
    have q0 := w_ne (x := "back") (y := "fix") (by decide +kernel)
    have q1 := w_ne (x := "back") (y := "buy") (by decide +kernel)
    have q2 := w_ne (x := "back") (y := "spend") (by decide +kernel)
    have q3 : fIn (.str "back") (.tup [.str "give", .str "change", .str "lend"]) = some (.bl false) := by
      have := in_tups (q := "back") (zs := ["give", "change", "lend"])
      rw [show decide (("back" : Str) ∈ (["give", "change", "lend"] : List Str)) = false by decide +kernel] at this
      exact this
    have a0 : atI (D.str "back" :: [D.str r, .str (numS d), .str o] : List D) 0 = some (.str "back") := at_lit (n := 0) rfl
    have a1 : atI (D.str "back" :: [D.str r, .str (numS d), .str o] : List D) 1 = some (.str (r)) := at_lit (n := 1) rfl
    have a2 : atI (D.str "back" :: [D.str r, .str (numS d), .str o] : List D) 2 = some (.str (numS d)) := at_lit (n := 2) rfl
    have a3 : atI (D.str "back" :: [D.str r, .str (numS d), .str o] : List D) 3 = some (.str (o)) := at_lit (n := 3) rfl
    have nd := number_of_ok (i := d) k.2.1
    have c3 : cut (D.str "back" :: [D.str r, .str (numS d), .str o] : List D) (some 3) none = [.str o] := rfl
    have e : (Deed.ws (.back r d o)).map D.str = (D.str "back" :: [D.str r, .str (numS d), .str o]) := rfl
    rw [e]
    skip
    skip
    simp [sf_0, sf_1, sf_2, sf_3, sf_4, sf_5, sf_6, q0, q1, q2, q3, a0, a1, a2, a3, nd, c3, Deed.d, Deed.w, Deed.ps, -fEq_ss]
  | fix r o l =>
    have q0 := w_eq (x := "fix") (y := "fix") rfl
    have q1 := w_ne (x := "fix") (y := "buy") (by decide +kernel)
    have q2 := w_ne (x := "fix") (y := "spend") (by decide +kernel)
    have q3 : fIn (.str "fix") (.tup [.str "give", .str "change", .str "lend"]) = some (.bl false) := by
      have := in_tups (q := "fix") (zs := ["give", "change", "lend"])
      rw [show decide (("fix" : Str) ∈ (["give", "change", "lend"] : List Str)) = false by decide +kernel] at this
      exact this
    have a0 : atI (D.str "fix" :: .str r :: .str o :: (lnW l).map D.str : List D) 0 = some (.str "fix") := at_lit (n := 0) rfl
    have a1 : atI (D.str "fix" :: .str r :: .str o :: (lnW l).map D.str : List D) 1 = some (.str (r)) := at_lit (n := 1) rfl
    have a2 : atI (D.str "fix" :: .str r :: .str o :: (lnW l).map D.str : List D) 2 = some (.str (o)) := at_lit (n := 2) rfl
    have ll := lines_of_ok k.2.2.2
    have c1 : cut (D.str "fix" :: .str r :: .str o :: (lnW l).map D.str : List D) (some 1) (some 3) = [.str r, .str o] := by rw [show (1 : Int) = ((1 : Nat) : Int) from rfl, show (3 : Int) = ((3 : Nat) : Int) from rfl]; unfold cut; rw [HT.sIx_nat, HT.sIx_nat, Nat.min_eq_left (by simp), Nat.min_eq_left (by simp)]; rfl
    have c3 : cut (D.str "fix" :: .str r :: .str o :: (lnW l).map D.str : List D) (some 3) none = (lnW l).map D.str := by rw [show (3 : Int) = ((3 : Nat) : Int) from rfl, cut_suf_l (by simp)]; rfl
    have e : (Deed.ws (.fix r o l)).map D.str = (D.str "fix" :: .str r :: .str o :: (lnW l).map D.str) := rfl
    rw [e]
    have hl := k.2.2.2.hi
    have hl2 := lnW_len l
    simp [sf_0, sf_1, sf_2, sf_3, sf_4, sf_5, sf_6, q0, q1, q2, q3, a0, a1, a2, ll, c1, c3, Deed.d, Deed.w, Deed.ps, -fEq_ss]
abbrev strO (zs : List Str) : O := .ml (zs.map fun z => .v (.str z))
theorem numS_f {i : Int} (h : Num i) : fStr [.int i] = some (.str (numS i)) := by
  obtain ⟨h1, h2⟩ := h
  obtain ⟨n, rfl⟩ : ∃ n : Nat, i = n := ⟨i.toNat, by omega⟩
  exact fStr_n (by omega)
def Deed.pw : Deed → List (D × List Str)
  | .buy r d p l => [(.str "buy", ["buy"]), (.str r, [r]), (.int d, [numS d]), (.str p, [p]), (.tup (l.map lnD), lnW l)]
  | .spend r d p n f => [(.str "spend", ["spend"]), (.str r, [r]), (.int d, [numS d]), (.str p, [p]), (.int n, [numS n]), (.tup (f.map .str), f)]
  | .give r d p o n => [(.str "give", ["give"]), (.str r, [r]), (.int d, [numS d]), (.str p, [p]), (.str o, [o]), (.int n, [numS n])]
  | .chg r d p o n => [(.str "change", ["change"]), (.str r, [r]), (.int d, [numS d]), (.str p, [p]), (.str o, [o]), (.int n, [numS n])]
  | .lend r d p o n e => [(.str "lend", ["lend"]), (.str r, [r]), (.int d, [numS d]), (.str p, [p]), (.str o, [o]), (.int n, [numS n]), (.int e, [numS e])]
  | .back r d o => [(.str "back", ["back"]), (.str r, [r]), (.int d, [numS d]), (.str o, [o])]
  | .fix r o l => [(.str "fix", ["fix"]), (.str r, [r]), (.str o, [o]), (.tup (l.map lnD), lnW l)]
theorem Deed.pw_d (x : Deed) : .tup (x.pw.map Prod.fst) = x.d := by cases x <;> rfl
theorem Deed.pw_w (x : Deed) : x.pw.flatMap Prod.snd = x.ws := by cases x <;> simp [Deed.pw, Deed.ws]
theorem Deed.ws_len {x : Deed} (k : x.Ok) : x.ws.length ≤ 30 := by
  cases x with
  | buy r d p l => have := lnW_len l; have := k.2.2.2.hi; simp [Deed.ws]; omega
  | spend r d p n f => have := k.2.2.2.2.hi; simp [Deed.ws]; omega
  | fix r o l => have := lnW_len l; have := k.2.2.2.hi; simp [Deed.ws]; omega
  | _ => simp [Deed.ws]
theorem Deed.sn_d {x : Deed} (k : x.Ok) : Sn 5 x.d := by
  have s := Deed.sn k
  refine .tup (fun y my => ?_) (by simp; have := s.2; omega)
  rcases List.mem_cons.mp my with rfl | my
  · have w : ∀ w ∈ words7, w.length ≤ 1000000 := by decide +kernel
    have m7 : x.w ∈ words7 := by cases x <;> simp [Deed.w]
    exact .str (w _ m7)
  · exact s.1 y my
def Wd (z : Str) : Prop := z ≠ "" ∧ 32 ∉ z.cps.toList ∧ z.length ≤ 12
theorem wd_name {z : Str} (h : isName z = true) : Wd z := by
  have l := isName_l h
  refine ⟨fun e => ?_, fun m => ?_, by omega⟩
  · rw [e] at l; exact absurd l.1 (by decide +kernel)
  · unfold isName at h
    simp only [Bool.and_eq_true, List.all_eq_true] at h
    have := of_decide_eq_true (h.2 32 m)
    exact absurd this (by decide +kernel)
theorem wd_num {i : Int} (h : Num i) : Wd (numS i) := by
  have q := (num_okS h).1
  unfold okNum at q
  simp only [Bool.and_eq_true, decide_eq_true_eq] at q
  obtain ⟨⟨⟨h1, h2⟩, h3⟩, h4⟩ := q
  refine ⟨fun e => ?_, fun m => ?_, h2⟩
  · rw [e] at h1; exact absurd h1 (by decide +kernel)
  · have := of_decide_eq_true (List.all_eq_true.mp h4 32 m)
    exact absurd (fig_mem.mp this).1 (by decide)
theorem wd_word : ∀ w ∈ words7, Wd w := by
  have : ∀ w ∈ words7, w ≠ "" ∧ 32 ∉ w.cps.toList ∧ w.length ≤ 12 := by decide +kernel
  exact this
theorem wd_lns {l : List (Str × Int)} (h : Lns l) : ∀ z ∈ lnW l, Wd z := fun z m => by
  obtain ⟨p, mp, mz⟩ := List.mem_flatMap.mp m
  simp at mz
  rcases mz with rfl | rfl
  · exact wd_name (h.ok p mp).1
  · exact wd_num (h.ok p mp).2
theorem Deed.wd {x : Deed} (k : x.Ok) : ∀ z ∈ x.ws, Wd z := by
  intro z m
  cases x with
  | buy r d p l =>
    simp only [Deed.ws, List.mem_cons] at m
    rcases m with rfl | rfl | rfl | rfl | m
    · exact wd_word _ (by simp)
    · exact wd_name k.1
    · exact wd_num k.2.1
    · exact wd_name k.2.2.1
    · exact wd_lns k.2.2.2 z m
  | spend r d p n f =>
    simp only [Deed.ws, List.mem_cons] at m
    rcases m with rfl | rfl | rfl | rfl | rfl | m
    · exact wd_word _ (by simp)
    · exact wd_name k.1
    · exact wd_num k.2.1
    · exact wd_name k.2.2.1
    · exact wd_num k.2.2.2.1.2
    · exact wd_name (k.2.2.2.2.nm z m)
  | give r d p o n =>
    simp only [Deed.ws, List.mem_cons, List.not_mem_nil, or_false] at m
    rcases m with rfl | rfl | rfl | rfl | rfl | rfl
    · exact wd_word _ (by simp)
    · exact wd_name k.1
    · exact wd_num k.2.1
    · exact wd_name k.2.2.1
    · exact wd_name k.2.2.2.1
    · exact wd_num k.2.2.2.2.2.2
  | chg r d p o n =>
    simp only [Deed.ws, List.mem_cons, List.not_mem_nil, or_false] at m
    rcases m with rfl | rfl | rfl | rfl | rfl | rfl
    · exact wd_word _ (by simp)
    · exact wd_name k.1
    · exact wd_num k.2.1
    · exact wd_name k.2.2.1
    · exact wd_name k.2.2.2.1
    · exact wd_num k.2.2.2.2.2.2
  | lend r d p o n e =>
    simp only [Deed.ws, List.mem_cons, List.not_mem_nil, or_false] at m
    rcases m with rfl | rfl | rfl | rfl | rfl | rfl | rfl
    · exact wd_word _ (by simp)
    · exact wd_name k.1
    · exact wd_num k.2.1
    · exact wd_name k.2.2.1
    · exact wd_name k.2.2.2.1
    · exact wd_num k.2.2.2.2.2.1.2
    · exact wd_num k.2.2.2.2.2.2.2
  | back r d o =>
    simp only [Deed.ws, List.mem_cons, List.not_mem_nil, or_false] at m
    rcases m with rfl | rfl | rfl | rfl
    · exact wd_word _ (by simp)
    · exact wd_name k.1
    · exact wd_num k.2.1
    · exact wd_name k.2.2.1
  | fix r o l =>
    simp only [Deed.ws, List.mem_cons] at m
    rcases m with rfl | rfl | rfl | m
    · exact wd_word _ (by simp)
    · exact wd_name k.1
    · exact wd_name k.2.1
    · exact wd_lns k.2.2.2 z m
theorem sum_le {zs : List Str} {n : Nat} (h : ∀ z ∈ zs, z.length ≤ n) : (zs.map (·.length)).sum ≤ n * zs.length := by
  induction zs with
  | nil => simp
  | cons z zs ih =>
    have := ih fun y m => h y (List.mem_cons_of_mem _ m)
    have := h z List.mem_cons_self
    rw [List.map_cons, List.sum_cons, List.length_cons, Nat.mul_succ]
    omega
theorem join_ws {x : Deed} (k : x.Ok) : fJoin (.str " ") (.lst (x.ws.map .str)) = some (.str (Txt.join " " x.ws)) := by
  show ((strsD (x.ws.map D.str)).bind fun ys => if joinOk " " ys = true then some (D.str (Txt.join " " ys)) else none) = _
  rw [strs_map, Option.bind_some, if_pos]
  unfold joinOk
  have := sum_le (zs := x.ws) (n := 12) fun z m => (Deed.wd k z m).2.2
  have := Deed.ws_len k
  have e : (" " : Str).length = 1 := by decide +kernel
  rw [e]
  exact decide_eq_true (by omega)
theorem Deed.ws_d {x : Deed} (k : x.Ok) : 4 ≤ x.ws.length ∧ (x.w = "spend" → 5 ≤ x.ws.length) ∧ x.ws[0]? = some x.w := by
  cases x with
  | buy r d p l => refine ⟨by simp [Deed.ws], fun z => absurd (show ("buy" : Str) = "spend" from z) (by decide +kernel), rfl⟩
  | spend r d p n f => refine ⟨by simp [Deed.ws], fun z => by simp [Deed.ws], rfl⟩
  | give r d p o n => refine ⟨by simp [Deed.ws], fun z => absurd (show ("give" : Str) = "spend" from z) (by decide +kernel), rfl⟩
  | chg r d p o n => refine ⟨by simp [Deed.ws], fun z => absurd (show ("change" : Str) = "spend" from z) (by decide +kernel), rfl⟩
  | lend r d p o n e => refine ⟨by simp [Deed.ws], fun z => absurd (show ("lend" : Str) = "spend" from z) (by decide +kernel), rfl⟩
  | back r d o => refine ⟨by simp [Deed.ws], fun z => absurd (show ("back" : Str) = "spend" from z) (by decide +kernel), rfl⟩
  | fix r o l =>
    have := lnW_len l
    have := k.2.2.2.lo
    refine ⟨by simp [Deed.ws]; omega, fun z => absurd (show ("fix" : Str) = "spend" from z) (by decide +kernel), rfl⟩
theorem words_lc {t : Str} {ws : List Str} (h : (Txt.split t " ").filter (fun z : Str => !decide (z = "")) = ws) (a : D) : lcGo (put 2) (mB (m2 fNe (mVar 2) (mC (.str "")))) l_read_deed_0 [some (.v a), none, none, none] ((Txt.split t " ").map .str) = .ok (ws.map .str) := by
  rw [← h]
  exact lcGo_filter fun z _ => ⟨[some (.v a), none, some (.v (.str z)), none], rfl, by simp, fun _ => by simp [l_read_deed_0]⟩
theorem split_f {t : Str} (hl : t.length ≤ 100000) : fSplit (.str t) (.str " ") = some (.ml (((Txt.split t " ").map D.str).map .v)) := by
  unfold fSplit
  dsimp only
  rw [if_pos ⟨by decide +kernel, by rw [sizeLine_eq]; omega⟩, List.map_map]
  rfl
theorem split_len {t : Str} (hl : t.length ≤ 100000) : (Txt.split t " ").length ≤ 16777216 := by
  have := PyProof.Rows.split_weight t " " (by decide +kernel)
  omega
theorem read_ok {x : Deed} (k : x.Ok) {t : Str} (h : (Txt.split t " ").filter (fun z : Str => !decide (z = "")) = x.ws) (hl : t.length ≤ 100000) : e_read_deed.fn [.str t] = .ok (.v x.d) := by
  have lc := words_lc h (.str t)
  have sp := split_f hl
  have sl := split_len hl
  obtain ⟨w1, w2, w3⟩ := Deed.ws_d k
  have a0 : atI (x.ws.map D.str) 0 = some (.str x.w) := at_lit (n := 0) (by rw [List.getElem?_map, w3]; rfl)
  have d := deed_of_ok k
  have c := Deed.checked k
  have nl : ¬ ((x.ws.length : Int) < 4) := by omega
  simp only [e_read_deed, runD, m_read_deed, sl0]
  generalize Txt.split t " " = parts at lc sp sl
  generalize hw : x.ws = ws at *
  generalize hx : x.d = xd at *
  by_cases s : x.w = "spend"
  · have q := w_eq s
    have nl5 : ¬ ((ws.length : Int) < 5) := by have := w2 s; omega
    simp at sp lc
    simp [sp, lc, sl, a0, q, nl, nl5, d, c, -fEq_ss]
  · have q := w_ne (decide_eq_false s)
    simp at sp lc
    simp [sp, lc, sl, a0, q, nl, d, c, -fEq_ss]
inductive Smp : D × List Str → Prop
  | s {z : Str} : Smp (.str z, [z])
  | i {i : Int} (h : Num i) : Smp (.int i, [numS i])
  | f {f : List Str} (h : Fst f) : Smp (.tup (f.map .str), f)
theorem first_go {a b : D} : ∀ {f zs : List Str} {y : Option D}, zs.length + f.length ≤ 1000 → ∃ y' : Option D, forGo (put 3) b_x_law_words_0 [some (.v a), some (strO zs), some (.v b), y.map .v] (f.map .str) = .next [some (.v a), some (strO (zs ++ f)), some (.v b), Option.map .v y']
  | [], zs, y, _ => ⟨y, by simp⟩
  | z :: f, zs, y, h => by
    obtain ⟨y', e⟩ := first_go (a := a) (b := b) (f := f) (zs := zs ++ [z]) (y := some (.str z)) (by simp at h ⊢; omega)
    refine ⟨y', ?_⟩
    unfold strO at e ⊢
    rw [List.map_cons, forGo_step (L1 := [some (.v a), some (.ml (zs.map fun z => .v (.str z))), some (.v b), some (.v (.str z))]) (L2 := [some (.v a), some (.ml ((zs ++ [z]).map fun z => .v (.str z))), some (.v b), some (.v (.str z))]) (by simp) ?_]
    · rw [List.append_assoc] at e; exact e
    · simp at h
      simp [b_x_law_words_0, ti_ss, show zs.length < 16777216 by omega]
theorem line_go {a b : D} : ∀ {l : List (Str × Int)} {zs : List Str} {o : O} {y : Option D}, o = strO zs ∨ o = .v (.lst (zs.map .str)) → (∀ p ∈ l, Num p.2) → l ≠ [] → zs.length + 2 * l.length ≤ 1000 → ∃ y' : Option D, forGo (put 3) b_x_law_words_0 [some (.v a), some o, some (.v b), y.map .v] (l.map lnD) = .next [some (.v a), some (.v (.lst ((zs ++ lnW l).map .str))), some (.v b), Option.map .v y']
  | [], _, _, _, _, _, h, _ => absurd rfl h
  | p :: l, zs, o, y, ho, hn, _, hl => by
    have hp := numS_f (hn p List.mem_cons_self)
    have t : fIsi "tuple" (lnD p) = some (.bl true) := ti_t (n := 1) (.tup fun y my => by
      simp at my
      rcases my with rfl | rfl
      · exact .str
      · exact .int)
    have fx0 : fIx (lnD p) (.int 0) = some (.str p.1) := rfl
    have fx1 : fIx (lnD p) (.int 1) = some (.int p.2) := rfl
    have st : b_x_law_words_0 [some (.v a), some o, some (.v b), some (.v (lnD p))] = .next [some (.v a), some (.v (.lst ((zs ++ [p.1, numS p.2]).map .str))), some (.v b), some (.v (lnD p))] := by
      simp at hl
      have fr : o.fr = .lst (zs.map .str) := by
        rcases ho with rfl | rfl
        · have : (zs.map fun z => O.v (.str z)) = (zs.map D.str).map .v := by rw [List.map_map]; rfl
          unfold strO
          rw [this, fr_ml]
        · rfl
      have ok1 : ∀ L, okSet [some o, L] 0 = true := fun L => by
        rcases ho with rfl | rfl <;> rfl
      have ok2 : okSet [some o, some (.v b), some (.v (lnD p))] 0 = true := by rcases ho with rfl | rfl <;> rfl
      simp [b_x_law_words_0, t, fr, ok2, fx0, fx1, hp, show zs.length + 2 ≤ 16777216 by omega, show zs.length ≤ 16777214 by omega]
    have tg : put 3 (lnD p) [some (.v a), some o, some (.v b), y.map .v] = some [some (.v a), some o, some (.v b), some (.v (lnD p))] := by simp
    rw [List.map_cons, forGo_step tg st]
    have ew : zs ++ lnW (p :: l) = zs ++ [p.1, numS p.2] ++ lnW l := by
      rw [List.append_assoc]; rfl
    rw [ew]
    by_cases c : l = []
    · subst c
      exact ⟨some (lnD p), by simp [lnW]⟩
    · obtain ⟨y', e⟩ := line_go (a := a) (b := b) (l := l) (zs := zs ++ [p.1, numS p.2]) (y := some (lnD p)) (.inr rfl) (fun q m => hn q (List.mem_cons_of_mem _ m)) c (by simp at hl ⊢; omega)
      exact ⟨y', e⟩
theorem simple_go {a : D} {rest : List D} : ∀ {qs : List (D × List Str)} {zs : List Str} {x y : Option D}, (∀ q ∈ qs, Smp q) → zs.length + (qs.flatMap Prod.snd).length ≤ 1000 → ∃ x' y' : Option D,
    forGo (put 2) b_x_law_words_1 [some (.v a), some (strO zs), x.map .v, y.map .v] (qs.map Prod.fst ++ rest) = forGo (put 2) b_x_law_words_1 [some (.v a), some (strO (zs ++ qs.flatMap Prod.snd)), Option.map .v x', Option.map .v y'] rest
  | [], zs, x, y, _, _ => ⟨x, y, by simp⟩
  | q :: qs, zs, x, y, h, hl => by
    rw [List.flatMap_cons, List.length_append] at hl
    have hq := h q List.mem_cons_self
    have tg : put 2 q.1 [some (.v a), some (strO zs), x.map .v, y.map .v] = some [some (.v a), some (strO zs), some (.v q.1), y.map .v] := by unfold strO; simp
    obtain ⟨y1, st⟩ : ∃ y1 : Option D, b_x_law_words_1 [some (.v a), some (strO zs), some (.v q.1), y.map .v] = .next [some (.v a), some (strO (zs ++ q.2)), some (.v q.1), Option.map .v y1] := by
      cases hq with
      | @s z =>
        refine ⟨y, ?_⟩
        unfold strO
        simp at hl
        cases y <;> simp [b_x_law_words_1, ti_ss, show zs.length < 16777216 by omega]
      | @i i hi =>
        refine ⟨y, ?_⟩
        have f := numS_f hi
        unfold strO
        simp at hl
        cases y <;> simp [b_x_law_words_1, ti_si, f, show zs.length < 16777216 by omega]
      | @f f hf =>
        obtain ⟨y', e⟩ := first_go (a := a) (b := .tup (f.map .str)) (f := f) (zs := zs) (y := y) (by simp at hl; omega)
        refine ⟨y', ?_⟩
        have t := ti_t (sn_fst hf).pn
        unfold strO at e ⊢
        simp only [b_x_law_words_1]
        cases y <;> (simp at e; simp [t, e])
    obtain ⟨x', y', e⟩ := simple_go (a := a) (rest := rest) (qs := qs) (zs := zs ++ q.2) (x := some q.1) (y := y1) (fun w m => h w (List.mem_cons_of_mem _ m)) (by rw [List.length_append]; omega)
    refine ⟨x', y', ?_⟩
    rw [List.map_cons, List.cons_append, forGo_step tg st, List.flatMap_cons, ← List.append_assoc]
    exact e
def Deed.pre : Deed → List (D × List Str) × List (Str × Int)
  | .buy r d p l => ([(.str "buy", ["buy"]), (.str r, [r]), (.int d, [numS d]), (.str p, [p])], l)
  | .fix r o l => ([(.str "fix", ["fix"]), (.str r, [r]), (.str o, [o])], l)
  | x => (x.pw, [])
theorem Deed.pre_ok {x : Deed} (k : x.Ok) : (∀ q ∈ x.pre.1, Smp q) ∧ (x.pre.2 = [] → x.pw = x.pre.1) ∧ (x.pre.2 ≠ [] → x.pw = x.pre.1 ++ [(.tup (x.pre.2.map lnD), lnW x.pre.2)] ∧ Lns x.pre.2) := by
  cases x with
  | buy r d p l =>
    refine ⟨fun q m => ?_, fun z => ?_, fun _ => ⟨rfl, k.2.2.2⟩⟩
    · simp only [Deed.pre, List.mem_cons, List.not_mem_nil, or_false] at m
      rcases m with rfl | rfl | rfl | rfl
      · exact .s
      · exact .s
      · exact .i k.2.1
      · exact .s
    · have := k.2.2.2.lo
      have z' : l = [] := z
      rw [z'] at this; simp at this
  | fix r o l =>
    refine ⟨fun q m => ?_, fun z => ?_, fun _ => ⟨rfl, k.2.2.2⟩⟩
    · simp only [Deed.pre, List.mem_cons, List.not_mem_nil, or_false] at m
      rcases m with rfl | rfl | rfl
      · exact .s
      · exact .s
      · exact .s
    · have := k.2.2.2.lo
      have z' : l = [] := z
      rw [z'] at this; simp at this
  | spend r d p n f =>
    refine ⟨fun q m => ?_, fun z => rfl, fun z => absurd rfl z⟩
    simp only [Deed.pre, Deed.pw, List.mem_cons, List.not_mem_nil, or_false] at m
    rcases m with rfl | rfl | rfl | rfl | rfl | rfl
    · exact .s
    · exact .s
    · exact .i k.2.1
    · exact .s
    · exact .i k.2.2.2.1.2
    · exact .f k.2.2.2.2
  | give r d p o n =>
    refine ⟨fun q m => ?_, fun z => rfl, fun z => absurd rfl z⟩
    simp only [Deed.pre, Deed.pw, List.mem_cons, List.not_mem_nil, or_false] at m
    rcases m with rfl | rfl | rfl | rfl | rfl | rfl
    · exact .s
    · exact .s
    · exact .i k.2.1
    · exact .s
    · exact .s
    · exact .i k.2.2.2.2.2.2
  | chg r d p o n =>
    refine ⟨fun q m => ?_, fun z => rfl, fun z => absurd rfl z⟩
    simp only [Deed.pre, Deed.pw, List.mem_cons, List.not_mem_nil, or_false] at m
    rcases m with rfl | rfl | rfl | rfl | rfl | rfl
    · exact .s
    · exact .s
    · exact .i k.2.1
    · exact .s
    · exact .s
    · exact .i k.2.2.2.2.2.2
  | lend r d p o n e =>
    refine ⟨fun q m => ?_, fun z => rfl, fun z => absurd rfl z⟩
    simp only [Deed.pre, Deed.pw, List.mem_cons, List.not_mem_nil, or_false] at m
    rcases m with rfl | rfl | rfl | rfl | rfl | rfl | rfl
    · exact .s
    · exact .s
    · exact .i k.2.1
    · exact .s
    · exact .s
    · exact .i k.2.2.2.2.2.1.2
    · exact .i k.2.2.2.2.2.2.2
  | back r d o =>
    refine ⟨fun q m => ?_, fun z => rfl, fun z => absurd rfl z⟩
    simp only [Deed.pre, Deed.pw, List.mem_cons, List.not_mem_nil, or_false] at m
    rcases m with rfl | rfl | rfl | rfl
    · exact .s
    · exact .s
    · exact .i k.2.1
    · exact .s
theorem strO_fr {zs : List Str} : (strO zs).fr = .lst (zs.map .str) := by
  have : (zs.map fun z => O.v (.str z)) = (zs.map D.str).map .v := by rw [List.map_map]; rfl
  unfold strO
  rw [this, fr_ml]
theorem words_ok {x : Deed} (k : x.Ok) : ∃ o, e_x_law_words.fn [x.d] = .ok o ∧ o.fr = .lst (x.ws.map .str) := by
  obtain ⟨p1, p2, p3⟩ := Deed.pre_ok k
  have wl := Deed.ws_len k
  have ww := x.pw_w
  have it : itemsD x.d = some (x.pw.map Prod.fst) := by rw [← x.pw_d]; rfl
  by_cases c : x.pre.2 = []
  · have e := p2 c
    rw [← ww, e] at wl ⊢
    rw [e] at it
    obtain ⟨x', y', g⟩ := simple_go (a := x.d) (rest := []) (qs := x.pre.1) (zs := []) (x := none) (y := none) p1 (by simp at wl ⊢; omega)
    rw [List.append_nil, forGo_nil] at g
    refine ⟨strO (x.pre.1.flatMap Prod.snd), ?_, strO_fr⟩
    simp only [e_x_law_words, runD, m_x_law_words, sl0]
    rw [List.nil_append] at g
    generalize x.pre.1.map Prod.fst = qs at it g
    generalize x.pre.1.flatMap Prod.snd = zs at g
    unfold strO at g ⊢
    simp at g
    simp [it, g]
  · obtain ⟨e, hl⟩ := p3 c
    have e2 : x.ws = x.pre.1.flatMap Prod.snd ++ lnW x.pre.2 := by rw [← ww, e]; simp
    rw [e2] at wl ⊢
    rw [e, List.map_append] at it
    rw [List.length_append, lnW_len] at wl
    obtain ⟨x', y', g⟩ := simple_go (a := x.d) (rest := [.tup (x.pre.2.map lnD)]) (qs := x.pre.1) (zs := []) (x := none) (y := none) p1 (by rw [List.length_nil]; omega)
    rw [List.nil_append] at g
    obtain ⟨y2, g2⟩ := line_go (a := x.d) (b := .tup (x.pre.2.map lnD)) (l := x.pre.2) (zs := x.pre.1.flatMap Prod.snd) (o := strO (x.pre.1.flatMap Prod.snd)) (y := y') (.inl rfl) (fun p m => (hl.ok p m).2) c (by omega)
    have t := ti_t (sn_lns hl).pn
    have tg : put 2 (.tup (x.pre.2.map lnD)) [some (.v x.d), some (strO (x.pre.1.flatMap Prod.snd)), x'.map .v, y'.map .v] = some [some (.v x.d), some (strO (x.pre.1.flatMap Prod.snd)), some (.v (.tup (x.pre.2.map lnD))), y'.map .v] := by unfold strO; simp
    have st : b_x_law_words_1 [some (.v x.d), some (strO (x.pre.1.flatMap Prod.snd)), some (.v (.tup (x.pre.2.map lnD))), y'.map .v] = .next [some (.v x.d), some (.v (.lst ((x.pre.1.flatMap Prod.snd ++ lnW x.pre.2).map .str))), some (.v (.tup (x.pre.2.map lnD))), y2.map .v] := by
      generalize x.pre.1.flatMap Prod.snd = zs at g2
      generalize x.pre.2.map lnD = ls at g2 t
      generalize zs ++ lnW x.pre.2 = rs at g2
      unfold strO at g2 ⊢
      simp only [b_x_law_words_1]
      cases y' <;> (simp at g2; simp [t, g2])
    rw [forGo_step tg st, forGo_nil] at g
    refine ⟨.v (.lst ((x.pre.1.flatMap Prod.snd ++ lnW x.pre.2).map .str)), ?_, rfl⟩
    simp only [e_x_law_words, runD, m_x_law_words, sl0]
    rw [show (([(D.tup (x.pre.2.map lnD), lnW x.pre.2)] : List (D × List Str)).map Prod.fst) = [D.tup (x.pre.2.map lnD)] from rfl] at it
    generalize x.pre.1.map Prod.fst ++ [D.tup (x.pre.2.map lnD)] = qs at it g
    generalize (x.pre.1.flatMap Prod.snd ++ lnW x.pre.2).map D.str = zs at g
    generalize D.tup (x.pre.2.map lnD) = dl at g
    unfold strO at g
    simp at g
    simp [it, g]
theorem str_l {x y : Str} (h : x.cps.toList = y.cps.toList) : x = y := by
  obtain ⟨a⟩ := x
  obtain ⟨b⟩ := y
  exact congrArg Str.mk (Array.toList_inj.mp h)
theorem canon : ∀ (n : Nat) {cs : List Nat}, cs.length = n + 1 → NumText.AllDigits cs → (cs.length = 1 ∨ cs.getD 0 0 ≠ 48) → TL.numL (NumText.digitsVal cs) = cs ∧ NumText.digitsVal cs < 10 ^ (n + 1) := by
  intro n
  induction n with
  | zero =>
    intro cs h d _
    match cs, h with
    | [c], _ =>
      have := d c (by simp)
      have e : NumText.digitsVal [c] = c - 48 := by simp [NumText.digitsVal]
      rw [e, TL.numL_lt (by omega)]
      exact ⟨by congr 1; omega, by omega⟩
  | succ n ih =>
    intro cs h d z
    have ne : cs ≠ [] := fun e => by rw [e] at h; simp at h
    obtain ⟨i, c, rfl⟩ : ∃ i c, cs = i ++ [c] := ⟨cs.dropLast, cs.getLast ne, (List.dropLast_concat_getLast ne).symm⟩
    have li : i.length = n + 1 := by simpa using h
    have z' : (i ++ [c]).getD 0 0 ≠ 48 := by
      rcases z with z | z
      · rw [h] at z; omega
      · exact z
    match i, li with
    | a :: r, li =>
      have z2 : a ≠ 48 := z'
      have da := d a (by simp)
      have dc := d c (by simp)
      obtain ⟨e1, e2⟩ := ih li (fun x m => d x (List.mem_append_left _ m)) (.inr z2)
      have p := NumText.digitsVal_pos (c := a) (cs := r) (by omega)
      rw [NumText.digitsVal_snoc]
      refine ⟨?_, ?_⟩
      · rw [TL.numL_step (by omega)]
        rw [show (NumText.digitsVal (a :: r) * 10 + (c - 48)) / 10 = NumText.digitsVal (a :: r) by omega, e1]
        congr 2
        omega
      · rw [Nat.pow_succ]; omega
theorem num_back {z : Str} {n : Int} (h : okNum z = true) (e : intText? z = some n) : z = numS n ∧ Num n := by
  unfold okNum at h
  simp only [Bool.and_eq_true, decide_eq_true_eq, Bool.not_eq_true'] at h
  obtain ⟨⟨⟨h1, h2⟩, h3⟩, h4⟩ := h
  have dig : NumText.AllDigits z.cps.toList := fun c hc => fig_mem.mp (of_decide_eq_true (List.all_eq_true.mp h4 c hc))
  have lz : z.cps.toList.length = z.length := rfl
  rw [intText_digits dig (fun e => by rw [e] at lz; simp at lz; omega) (by omega)] at e
  obtain rfl := Option.some.inj e
  obtain ⟨m, hm⟩ : ∃ m, z.cps.toList.length = m + 1 := ⟨z.length - 1, by omega⟩
  obtain ⟨q1, q2⟩ := canon m hm dig (by
    by_cases c : 1 < z.length
    · rw [decide_eq_true c] at h3
      simp only [Bool.true_and, decide_eq_false_iff_not] at h3
      exact .inr h3
    · exact .inl (by omega))
  refine ⟨str_l ?_, by omega, ?_⟩
  · rw [numS_tl, q1]
  · have : 10 ^ (m + 1) ≤ 10 ^ 12 := Nat.pow_le_pow_right (by omega) (by omega)
    omega
theorem num_any {z : Str} (hz : z.length ≤ 1000000) : e_number_of.fn [.str z] = .exc "BadDeed" ∨ ∃ n : Int, e_number_of.fn [.str z] = .ok (.v (.int n)) ∧ z = numS n ∧ Num n := by
  by_cases c : okNum z = true
  · obtain ⟨n, e⟩ := num_int c
    obtain ⟨a, b⟩ := num_back c e
    exact .inr ⟨_, num_ok c e, a, b⟩
  · exact .inl (num_no hz (by simpa using c))
theorem lc_any {tg : D → Sl → Option Sl} {el : Sl → R D} {L : Sl} {α : Type} {P : α → Prop} {g : α → D} {W : α → List Str} {f : Nat → List Str} : ∀ {ks : List Nat} {h : Nat → D}, (∀ k ∈ ks, ∃ L', tg (h k) L = some L' ∧ (el L' = .exc "BadDeed" ∨ ∃ a, el L' = .ok (g a) ∧ W a = f k ∧ P a)) → lcGo tg mYes el L (ks.map h) = .exc "BadDeed" ∨ ∃ as : List α, lcGo tg mYes el L (ks.map h) = .ok (as.map g) ∧ as.length = ks.length ∧ as.flatMap W = ks.flatMap f ∧ ∀ a ∈ as, P a
  | [], _, _ => .inr ⟨[], rfl, rfl, rfl, fun _ m => by cases m⟩
  | k :: ks, h, H => by
    obtain ⟨L', t, o⟩ := H k (.head _)
    rcases o with o | ⟨a, o, w, p⟩
    · refine .inl ?_
      rw [List.map_cons]
      unfold lcGo
      rw [t, lift_some, bind_ok, ap_mYes, bind_ok, if_pos rfl, o]
      rfl
    · have go : lcGo tg mYes el L ((k :: ks).map h) = (lcGo tg mYes el L (ks.map h)).bind fun ds => .ok (g a :: ds) := by
        rw [List.map_cons]
        conv => lhs; unfold lcGo
        rw [t, lift_some, bind_ok, ap_mYes, bind_ok, if_pos rfl, o, bind_ok]
      rcases lc_any (ks := ks) (h := h) (fun q m => H q (.tail _ m)) with e | ⟨as, e, l, w2, p2⟩
      · exact .inl (by rw [go, e]; rfl)
      · refine .inr ⟨a :: as, by rw [go, e]; rfl, by simp [l], by rw [List.flatMap_cons, List.flatMap_cons, w, w2], fun b m => ?_⟩
        rcases List.mem_cons.mp m with rfl | m
        · exact p
        · exact p2 b m
def pairAt (ws : List Str) (k : Nat) : List Str := [ws.getD (2 * k) "", ws.getD (2 * k + 1) ""]
theorem pairs_all : ∀ {m : Nat} {ws : List Str}, ws.length = 2 * m → (List.range m).flatMap (pairAt ws) = ws
  | 0, ws, h => by simp at h; simp [h]
  | m + 1, a :: b :: r, h => by
    rw [List.range_succ_eq_map, List.flatMap_cons, List.flatMap_map]
    have := pairs_all (m := m) (ws := r) (by simp at h; omega)
    have e : (fun k => pairAt (a :: b :: r) (Nat.succ k)) = pairAt r := by
      funext k
      unfold pairAt
      rw [show 2 * (Nat.succ k) = 2 * k + 1 + 1 by omega]
      simp
    rw [e, this]
    rfl
theorem lines_any {ws : List Str} (hl : ws.length ≤ 1000) (hw : ∀ z ∈ ws, z.length ≤ 1000000) : e_lines_of.fn [.lst (ws.map .str)] = .exc "BadDeed" ∨ ∃ l, e_lines_of.fn [.lst (ws.map .str)] = .ok (.v (.tup (l.map lnD))) ∧ ws = lnW l ∧ (∀ p ∈ l, Num p.2) ∧ l.length ≤ 500 := by
  by_cases odd : ws.length % 2 = 1
  · refine .inl ?_
    have fm : fMod (.int (ws.length : Int)) (.int 2) = some (.int 1) := by rw [fMod_ii (by omega)]; congr 2; omega
    simp only [e_lines_of, runD, m_lines_of, sl0]
    simp [fm, show ws.length ≤ 16777216 by omega]
  · obtain ⟨m, hm⟩ : ∃ m, ws.length = 2 * m := ⟨ws.length / 2, by omega⟩
    have fm : fMod (.int (ws.length : Int)) (.int 2) = some (.int 0) := by rw [fMod_ii (by omega)]; congr 2; omega
    have r3 : rng3 (.int 0) (.int (ws.length : Int)) (.int 2) = some (rngC 0 2 m) := by
      rw [rng3_ok (by omega)]
      congr 2
      unfold stepN
      by_cases m0 : m = 0
      · subst m0; rw [hm]; rfl
      rw [if_neg (by omega)]
      split <;> omega
    have lr : (rngC 0 2 m).length ≤ 16777216 := by unfold rngC; simp; omega
    have lc := lc_any (tg := put 1) (el := l_lines_of_0) (L := [some (.v (.lst (ws.map .str))), none]) (P := fun p : Str × Int => Num p.2) (g := lnD) (W := fun p => [p.1, numS p.2]) (f := pairAt ws) (ks := List.range m) (h := fun i => .int (0 + (i : Int) * 2)) (fun k mk => by
      have hk := List.mem_range.mp mk
      have a1 : atI (ws.map D.str) ((2 * k : Nat) : Int) = some (.str (ws.getD (2 * k) "")) := at_lit (by rw [List.getElem?_map, List.getD_eq_getElem?_getD, List.getElem?_eq_getElem (by omega)]; rfl)
      have a2 : atI (ws.map D.str) ((2 * k + 1 : Nat) : Int) = some (.str (ws.getD (2 * k + 1) "")) := at_lit (by rw [List.getElem?_map, List.getD_eq_getElem?_getD, List.getElem?_eq_getElem (by omega)]; rfl)
      have i1 : (0 + (k : Int) * 2) = ((2 * k : Nat) : Int) := by omega
      have i2 : ((2 * k : Nat) : Int) + 1 = ((2 * k + 1 : Nat) : Int) := by omega
      have n := num_any (z := ws.getD (2 * k + 1) "") (by
        rw [List.getD_eq_getElem?_getD, List.getElem?_eq_getElem (by omega)]
        exact hw _ (List.getElem_mem _))
      refine ⟨[some (.v (.lst (ws.map .str))), some (.v (.int ((2 * k : Nat) : Int)))], by rw [i1]; rfl, ?_⟩
      unfold pairAt
      generalize ws.getD (2 * k) "" = q1 at a1
      generalize ws.getD (2 * k + 1) "" = q2 at a2 n
      generalize hn : ((2 * k : Nat) : Int) = j at a1 i2
      generalize ((2 * k + 1 : Nat) : Int) = j2 at a2 i2
      rcases n with n | ⟨i, n, e, nn⟩
      · exact .inl (by simp [l_lines_of_0, a1, i2, a2, n])
      · exact .inr ⟨(q1, i), by simp [l_lines_of_0, a1, i2, a2, n, lnD], by rw [e], nn⟩)
    change lcGo (put 1) mYes l_lines_of_0 [some (.v (.lst (ws.map .str))), none] (rngC 0 2 m) = _ ∨ ∃ as : List (Str × Int), lcGo (put 1) mYes l_lines_of_0 [some (.v (.lst (ws.map .str))), none] (rngC 0 2 m) = _ ∧ _ at lc
    have ev := pairs_all hm
    simp only [e_lines_of, runD, m_lines_of, sl0]
    generalize rngC 0 2 m = rg at lc r3 lr
    rcases lc with lc | ⟨as, lc, la, w, p⟩
    · exact .inl (by simp [fm, r3, lc, lr, show ws.length ≤ 16777216 by omega])
    · rw [List.length_range] at la
      refine .inr ⟨as, ?_, by rw [← ev, ← w]; rfl, p, by omega⟩
      simp [fm, r3, lc, lr, show ws.length ≤ 16777216 by omega, show as.length ≤ 16777216 by omega]
theorem strs_D : ∀ {zs : List Str}, strsD (zs.map .str) = some zs
  | [] => rfl
  | z :: zs => by
    show (strsD (zs.map .str)).map (z :: ·) = _
    rw [strs_D]
    rfl
theorem lns_of {l : List (Str × Int)} (h : linesB (.tup (l.map lnD)) = true) (n : ∀ p ∈ l, Num p.2) : Lns l := by
  unfold linesB at h
  simp only [Bool.and_eq_true, decide_eq_true_eq, List.length_map] at h
  refine ⟨h.1.1, h.1.2, fun p m => ⟨?_, n p m⟩⟩
  have := List.all_eq_true.mp h.2 _ (List.mem_map_of_mem m)
  unfold lnD lineB at this
  simp only [Bool.and_eq_true] at this
  exact this.1
theorem fst_of {f : List Str} (h : firstsB (.tup (f.map .str)) = true) : Fst f := by
  unfold firstsB at h
  dsimp only at h
  rw [strs_D] at h
  dsimp only at h
  simp only [Bool.and_eq_true, decide_eq_true_eq] at h
  exact ⟨h.1.1, fun z m => List.all_eq_true.mp h.1.2 z m, h.2⟩
theorem sn_ln {l : List (Str × Int)} (h : ∀ p ∈ l, p.1.length ≤ 1000000) (hl : l.length ≤ 500) : Sn 4 (.tup (l.map lnD)) := .tup (fun x m => by
  obtain ⟨p, mp, rfl⟩ := List.mem_map.mp m
  refine .tup (fun y my => ?_) (by simp)
  simp at my
  rcases my with rfl | rfl
  · exact .str (h p mp)
  · exact .int) (by rw [List.length_map]; omega)
theorem sn_ss {f : List Str} (h : ∀ z ∈ f, z.length ≤ 1000000) : ∀ d ∈ f.map D.str, Sn 4 d := fun d m => by
  obtain ⟨z, mz, rfl⟩ := List.mem_map.mp m
  exact .str (h z mz)
theorem nums_any : ∀ {ns : List Str}, (∀ z ∈ ns, z.length ≤ 1000000) → (∀ x y z : Option O, lcGo (put 3) mYes l_deed_of_0 [x, y, z, none] (ns.map .str) = .exc "BadDeed") ∨ ∃ is : List Int, (∀ x y z : Option O, lcGo (put 3) mYes l_deed_of_0 [x, y, z, none] (ns.map .str) = .ok (is.map .int)) ∧ ns = is.map numS ∧ ∀ i ∈ is, Num i
  | [], _ => .inr ⟨[], fun _ _ _ => rfl, rfl, fun _ m => by cases m⟩
  | n :: ns, h => by
    have t : ∀ x y z : Option O, put 3 (.str n) [x, y, z, none] = some [x, y, z, some (.v (.str n))] := fun x y z => rfl
    rcases num_any (h n (.head _)) with nn | ⟨i, nn, rfl, ni⟩
    · refine .inl fun x y z => ?_
      have o : l_deed_of_0 [x, y, z, some (.v (.str n))] = .exc "BadDeed" := by simp [l_deed_of_0, nn]
      rw [List.map_cons]
      unfold lcGo
      rw [t, lift_some, bind_ok, ap_mYes, bind_ok, if_pos rfl, o]
      rfl
    · have o : ∀ x y z : Option O, l_deed_of_0 [x, y, z, some (.v (.str (numS i)))] = .ok (.int i) := fun x y z => by simp [l_deed_of_0, nn]
      have go : ∀ x y z : Option O, lcGo (put 3) mYes l_deed_of_0 [x, y, z, none] ((numS i :: ns).map .str) = (lcGo (put 3) mYes l_deed_of_0 [x, y, z, none] (ns.map .str)).bind fun ds => .ok (.int i :: ds) := fun x y z => by
        rw [List.map_cons]
        conv => lhs; unfold lcGo
        rw [t, lift_some, bind_ok, ap_mYes, bind_ok, if_pos rfl, o, bind_ok]
      rcases nums_any (ns := ns) (fun z m => h z (.tail _ m)) with e | ⟨is, e, q, p⟩
      · exact .inl fun x y z => by rw [go, e]; rfl
      · exact .inr ⟨i :: is, fun x y z => by rw [go, e]; rfl, by rw [q]; rfl, fun k m => by
          rcases List.mem_cons.mp m with rfl | m
          · exact ni
          · exact p k m⟩
theorem mem_lnW {l : List (Str × Int)} {p : Str × Int} (m : p ∈ l) : p.1 ∈ lnW l := List.mem_flatMap.mpr ⟨p, m, by simp⟩
theorem deed_any {w a b c : Str} {rest : List Str} (hl : rest.length ≤ 80) (hz : ∀ z ∈ w :: a :: b :: c :: rest, z.length ≤ 1000000) (h5 : w = "spend" → rest ≠ []) :
    e_deed_of.fn [.lst ((w :: a :: b :: c :: rest).map .str)] = .exc "BadDeed" ∨ ∃ ds, e_deed_of.fn [.lst ((w :: a :: b :: c :: rest).map .str)] = .ok (.v (.tup (.str w :: ds))) ∧ SnA ds ∧ (deedB w ds = true → ∃ x : Deed, x.Ok ∧ x.ws = w :: a :: b :: c :: rest) := by
  have e : (w :: a :: b :: c :: rest).map D.str = D.str w :: .str a :: .str b :: .str c :: rest.map D.str := rfl
  rw [e]
  have za := hz a (by simp)
  have zb := hz b (by simp)
  have zc := hz c (by simp)
  have zr : ∀ z ∈ rest, z.length ≤ 1000000 := fun z m => hz z (by simp [m])
  have fe : ∀ z : Str, w = z → fEq (.str w) (.str z) = some (.bl true) := fun z e => w_eq e
  have fn : ∀ z : Str, ¬ w = z → fEq (.str w) (.str z) = some (.bl false) := fun z e => w_ne (decide_eq_false e)
  have a0 : atI (D.str w :: .str a :: .str b :: .str c :: rest.map D.str : List D) 0 = some (.str w) := at_lit (n := 0) rfl
  have a1 : atI (D.str w :: .str a :: .str b :: .str c :: rest.map D.str : List D) 1 = some (.str a) := at_lit (n := 1) rfl
  have a2 : atI (D.str w :: .str a :: .str b :: .str c :: rest.map D.str : List D) 2 = some (.str b) := at_lit (n := 2) rfl
  have a3 : atI (D.str w :: .str a :: .str b :: .str c :: rest.map D.str : List D) 3 = some (.str c) := at_lit (n := 3) rfl
  have c1 : cut (D.str w :: .str a :: .str b :: .str c :: rest.map D.str : List D) (some 1) (some 3) = [.str a, .str b] := by rw [show (1 : Int) = ((1 : Nat) : Int) from rfl, show (3 : Int) = ((3 : Nat) : Int) from rfl]; unfold cut; rw [HT.sIx_nat, HT.sIx_nat, Nat.min_eq_left (by simp), Nat.min_eq_left (by simp)]; rfl
  have c3 : cut (D.str w :: .str a :: .str b :: .str c :: rest.map D.str : List D) (some 3) none = .str c :: rest.map D.str := by rw [show (3 : Int) = ((3 : Nat) : Int) from rfl, cut_suf_l (by simp)]; rfl
  have c4 : cut (D.str w :: .str a :: .str b :: .str c :: rest.map D.str : List D) (some 4) none = rest.map D.str := by rw [show (4 : Int) = ((4 : Nat) : Int) from rfl, cut_suf_l (by simp)]; rfl
  have c3s : cut (D.str w :: .str a :: .str b :: .str c :: rest.map D.str : List D) (some 3) (some 5) = .str c :: (rest.take 1).map D.str := by
    cases rest with
    | nil => rfl
    | cons o r => rw [show (3 : Int) = ((3 : Nat) : Int) from rfl, show (5 : Int) = ((5 : Nat) : Int) from rfl]; unfold cut; rw [HT.sIx_nat, HT.sIx_nat, Nat.min_eq_left (by simp), Nat.min_eq_left (by simp)]; rfl
  have c5 : cut (D.str w :: .str a :: .str b :: .str c :: rest.map D.str : List D) (some 5) none = (rest.drop 1).map D.str := by
    cases rest with
    | nil => rfl
    | cons o r => rw [show (5 : Int) = ((5 : Nat) : Int) from rfl, cut_suf_l (by simp)]; rfl
  simp only [e_deed_of, runD, sf_eq, sl0]
  by_cases w1 : w = "fix"
  · have ln := lines_any (ws := c :: rest) (by simp; omega) (fun z m => hz z (.tail _ (.tail _ (.tail _ m))))
    rw [List.map_cons] at ln
    rcases ln with ln | ⟨l, ln, el, nl, ll⟩
    · exact .inl (by simp [sf_0, sf_1, fe _ w1, a0, c1, c3, ln, -fEq_ss])
    · refine .inr ⟨[.str a, .str b, .tup (l.map lnD)], by simp [sf_0, sf_1, fe _ w1, a0, c1, c3, ln, -fEq_ss], ⟨sn_c (.str za) (sn_c (.str zb) (sn_c (sn_ln (fun p m => ?_) ll) sn_e)), by simp⟩, fun q => ⟨.fix a b l, ?_, by rw [w1, el]; rfl⟩⟩
      · have := mem_lnW m
        rw [← el] at this
        exact hz _ (.tail _ (.tail _ (.tail _ this)))
      · subst w1
        unfold deedB at q
        rw [if_neg (by decide +kernel), if_neg (by decide +kernel), if_neg (by decide +kernel), if_neg (by decide +kernel), if_neg (by decide +kernel)] at q
        simp only [fixB, nameB, sameB, Bool.and_eq_true, Bool.not_eq_true', decide_eq_false_iff_not] at q
        exact ⟨q.2.1.1.1, q.2.1.1.2, q.2.1.2, lns_of q.2.2 nl⟩
  rcases num_any zb with nb | ⟨d, nb, rfl, nd⟩
  · exact .inl (by simp [sf_0, sf_1, sf_2, fn _ w1, a0, a1, a2, nb, -fEq_ss])
  by_cases w2 : w = "buy"
  · have ln := lines_any (ws := rest) (by omega) zr
    rcases ln with ln | ⟨l, ln, el, nl, ll⟩
    · exact .inl (by simp [sf_0, sf_1, sf_2, sf_3, fn _ w1, fe _ w2, a0, a1, a2, a3, nb, c4, ln, -fEq_ss])
    · refine .inr ⟨[.str a, .int d, .str c, .tup (l.map lnD)], by simp [sf_0, sf_1, sf_2, sf_3, fn _ w1, fe _ w2, a0, a1, a2, a3, nb, c4, ln, -fEq_ss], ⟨sn_c (.str za) (sn_c .int (sn_c (.str zc) (sn_c (sn_ln (fun p m => ?_) ll) sn_e))), by simp⟩, fun q => ⟨.buy a d c l, ?_, by rw [w2, el]; rfl⟩⟩
      · have := mem_lnW m
        rw [← el] at this
        exact zr _ this
      · subst w2
        unfold deedB at q
        rw [if_pos rfl] at q
        simp only [buyB, nameB, Bool.and_eq_true] at q
        exact ⟨q.1.1.1, nd, q.1.1.2, lns_of q.2 nl⟩
  by_cases w3 : w = "spend"
  · match rest, h5 w3 with
    | n :: f, _ =>
      have a4 : atI (D.str w :: .str a :: .str (numS d) :: .str c :: (n :: f).map D.str : List D) 4 = some (.str n) := at_lit (n := 4) rfl
      have hf : f.length ≤ 16777212 := by simp at hl; omega
      rw [List.map_cons, List.drop_succ_cons, List.drop_zero] at *
      rcases num_any (zr n (.head _)) with nn | ⟨i, nn, rfl, ni⟩
      · exact .inl (by simp [sf_0, sf_1, sf_2, sf_3, sf_4, fn _ w1, fn _ w2, fe _ w3, a0, a1, a2, a3, a4, nb, nn, -fEq_ss])
      · refine .inr ⟨[.str a, .int d, .str c, .int i, .tup (f.map D.str)], by simp [sf_0, sf_1, sf_2, sf_3, sf_4, fn _ w1, fn _ w2, fe _ w3, a0, a1, a2, a3, a4, nb, nn, c5, hf, -fEq_ss], ⟨sn_c (.str za) (sn_c .int (sn_c (.str zc) (sn_c .int (sn_c (.tup (fun x m => ?_) ?_) sn_e)))), by simp⟩, fun q => ⟨.spend a d c i f, ?_, by rw [w3]; rfl⟩⟩
        · obtain ⟨z, mz, rfl⟩ := List.mem_map.mp m
          exact .str (zr z (.tail _ mz))
        · simp at hl ⊢; omega
        · subst w3
          unfold deedB at q
          rw [if_neg (by decide +kernel), if_pos rfl] at q
          simp only [spendB, nameB, numB, Bool.and_eq_true, decide_eq_true_eq] at q
          exact ⟨q.1.1.1.1, nd, q.1.1.1.2, ⟨q.1.2, ni⟩, fst_of q.2⟩
  have q3 : fIn (.str w) (.tup [.str "give", .str "change", .str "lend"]) = some (.bl (decide (w ∈ (["give", "change", "lend"] : List Str)))) := in_tups (zs := ["give", "change", "lend"])
  by_cases w4 : w ∈ (["give", "change", "lend"] : List Str)
  · rw [decide_eq_true w4] at q3
    cases rest with
    | nil =>
      simp only [List.map_nil, List.take_nil, List.drop_nil] at c3s c5 a0 a1 a2
      refine .inr ⟨[.str a, .int d, .str c], by simp [sf_0, sf_1, sf_2, sf_3, sf_4, sf_5, fn _ w1, fn _ w2, fn _ w3, q3, a0, a1, a2, nb, c3s, c5, lcGo, -fEq_ss], ⟨sn_c (.str za) (sn_c .int (sn_c (.str zc) sn_e)), by simp⟩, fun q => ?_⟩
      exfalso
      unfold deedB at q
      rw [if_neg w2, if_neg w3] at q
      by_cases g : w = "give" ∨ w = "change"
      · rw [if_pos g] at q; simp at q
      · rw [if_neg g, if_pos (by simp at w4 g; rcases w4 with h | h | h; exact absurd h g.1; exact absurd h g.2; exact h)] at q
        cases q
    | cons o ns =>
      have zo := zr o (.head _)
      have zn : ns.length ≤ 80 := by simp at hl; omega
      simp only [List.map_nil, List.map_cons, List.take_succ_cons, List.take_zero, List.drop_succ_cons, List.drop_zero] at c3s c5 a0 a1 a2 ⊢
      rcases nums_any (ns := ns) (fun z m => zr z (.tail _ m)) with lc | ⟨is, lc, en, ni⟩
      · exact .inl (by simp [sf_0, sf_1, sf_2, sf_3, sf_4, sf_5, fn _ w1, fn _ w2, fn _ w3, q3, a0, a1, a2, nb, c3s, c5, lc, show ns.length ≤ 16777216 by omega, -fEq_ss])
      · have zi : is.length ≤ 80 := by rw [en, List.length_map] at zn; exact zn
        refine .inr ⟨.str a :: .int d :: .str c :: .str o :: is.map D.int, by simp [sf_0, sf_1, sf_2, sf_3, sf_4, sf_5, fn _ w1, fn _ w2, fn _ w3, q3, a0, a1, a2, nb, c3s, c5, lc, show is.length ≤ 16777200 by omega, show 5 + is.length ≤ 16777216 by omega, show ns.length ≤ 16777216 by omega, show is.length ≤ 16777216 by omega, -fEq_ss], ⟨sn_c (.str za) (sn_c .int (sn_c (.str zc) (sn_c (.str zo) fun x m => by obtain ⟨i, _, rfl⟩ := List.mem_map.mp m; exact .int))), by simp; omega⟩, fun q => ?_⟩
        unfold deedB at q
        rw [if_neg w2, if_neg w3] at q
        simp only [List.mem_cons, List.not_mem_nil, or_false] at w4
        by_cases g : w = "give" ∨ w = "change"
        · rw [if_pos g] at q
          match is, ni, q with
          | [], _, q => simp at q
          | i :: k :: r, _, q => simp at q
          | [i], ni, q =>
            simp only [moveB, nameB, numB, sameB, List.map_cons, List.map_nil, Bool.and_eq_true, Bool.not_eq_true', decide_eq_false_iff_not, decide_eq_true_eq] at q
            obtain ⟨_, ⟨⟨⟨⟨q1, q2⟩, q3⟩, q4⟩, q5⟩, q6⟩ := q
            rcases g with g | g
            · exact ⟨.give a d c o i, ⟨q1, nd, q2, q3, q4, q6, ni i (.head _)⟩, by rw [g, en]; rfl⟩
            · exact ⟨.chg a d c o i, ⟨q1, nd, q2, q3, q4, q6, ni i (.head _)⟩, by rw [g, en]; rfl⟩
        · have wl : w = "lend" := by
            rcases w4 with h | h | h
            · exact absurd (.inl h) g
            · exact absurd (.inr h) g
            · exact h
          rw [if_neg g, if_pos wl] at q
          match is, ni, q with
          | [], _, q => cases q
          | [_], _, q => cases q
          | i :: k :: l :: r, _, q => cases q
          | [i, k], ni, q =>
            simp only [lendB, endB, moveB, nameB, numB, sameB, List.map_cons, List.map_nil, Bool.and_eq_true, Bool.not_eq_true', decide_eq_false_iff_not, decide_eq_true_eq] at q
            obtain ⟨⟨⟨⟨⟨⟨q1, q2⟩, q3⟩, q4⟩, q5⟩, q6⟩, q7⟩ := q
            exact ⟨.lend a d c o i k, ⟨q1, nd, q2, q3, q4, ⟨q6, ni i (.head _)⟩, ⟨by omega, ni k (.tail _ (.head _))⟩⟩, by rw [wl, en]; rfl⟩
  rw [decide_eq_false w4] at q3
  refine .inr ⟨.str a :: .int d :: .str c :: rest.map D.str, by simp [sf_0, sf_1, sf_2, sf_3, sf_4, sf_5, sf_6, fn _ w1, fn _ w2, fn _ w3, q3, a0, a1, a2, nb, c3, show rest.length ≤ 16777200 by omega, show rest.length ≤ 16777215 by omega, show 3 + (rest.length + 1) ≤ 16777216 by omega, -fEq_ss], ⟨sn_c (.str za) (sn_c .int (sn_c (.str zc) (sn_ss zr))), by simp; omega⟩, fun q => ?_⟩
  unfold deedB at q
  rw [if_neg w2, if_neg w3, if_neg (fun g => w4 (by simp; rcases g with g | g <;> simp [g])), if_neg (fun g => w4 (by simp [g]))] at q
  by_cases w5 : w = "back"
  · rw [if_pos w5] at q
    cases rest with
    | cons o r => cases q
    | nil =>
      simp only [backB, nameB, numB, sameB, List.map_nil, Bool.and_eq_true, Bool.not_eq_true', decide_eq_false_iff_not, decide_eq_true_eq] at q
      exact ⟨.back a d c, ⟨q.1.1.1, nd, q.1.1.2, q.2⟩, by rw [w5]; rfl⟩
  · rw [if_neg w5, decide_eq_false w1] at q
    cases q
theorem read_any {t : Str} {ws : List Str} (h : (Txt.split t " ").filter (fun z : Str => !decide (z = "")) = ws) (hl : t.length ≤ 100000) (hn : ws.length ≤ 80) (hz : ∀ z ∈ ws, z.length ≤ 1000000) (no : ∀ x : Deed, x.Ok → x.ws ≠ ws) : e_read_deed.fn [.str t] = .exc "BadDeed" := by
  have lc := words_lc h (.str t)
  have sp := split_f hl
  have sl := split_len hl
  simp only [e_read_deed, runD, m_read_deed, sl0]
  generalize Txt.split t " " = parts at lc sp sl
  simp at sp lc
  by_cases l4 : ws.length < 4
  · simp [sp, lc, sl, show (ws.length : Int) < 4 by omega, show ws.length ≤ 16777216 by omega]
  match ws, hn, hz, no, lc, l4 with
  | [], _, _, _, _, l4 => exact absurd (by simp) l4
  | [_], _, _, _, _, l4 => exact absurd (by simp) l4
  | [_, _], _, _, _, _, l4 => exact absurd (by simp) l4
  | [_, _, _], _, _, _, _, l4 => exact absurd (by simp) l4
  | w :: a :: b :: c :: rest, hn, hz, no, lc, _ =>
    have a0 : atI (List.map D.str (w :: a :: b :: c :: rest)) 0 = some (.str w) := at_lit (n := 0) rfl
    have rl : rest.length ≤ 80 := by simp at hn; omega
    by_cases s : w = "spend" ∧ rest = []
    · obtain ⟨s, rfl⟩ := s
      have q := w_eq s
      simp at a0
      simp [sp, lc, sl, a0, q, -fEq_ss]
    have nx : ¬ ((rest.length : Int) + 1 + 1 + 1 + 1 < 4) := by omega
    have c5 : w = "spend" → ¬ ((rest.length : Int) + 1 + 1 + 1 + 1 < 5) := fun g => by
      have : rest ≠ [] := fun e => s ⟨g, e⟩
      have : rest.length ≠ 0 := fun e => this (List.length_eq_zero_iff.mp e)
      omega
    have d := deed_any (w := w) (a := a) (b := b) (c := c) (rest := rest) rl hz (fun g e => s ⟨g, e⟩)
    simp at d a0
    by_cases g : w = "spend"
    · have q := w_eq g
      have c5 := c5 g
      rcases d with d | ⟨ds, d, sn, x⟩
      · simp [sp, lc, sl, a0, q, nx, c5, d, show rest.length + 1 + 1 + 1 + 1 ≤ 16777216 by omega, -fEq_ss]
      · have ch : e_checked_deed.fn [.tup (.str w :: ds)] = .exc "BadDeed" := checked_no sn (by
          cases k : deedB w ds with
          | false => rfl
          | true => obtain ⟨x, ok, e⟩ := x k; exact absurd e (no x ok))
        simp [sp, lc, sl, a0, q, nx, c5, d, ch, show rest.length + 1 + 1 + 1 + 1 ≤ 16777216 by omega, -fEq_ss]
    · have q := w_ne (decide_eq_false g)
      rcases d with d | ⟨ds, d, sn, x⟩
      · simp [sp, lc, sl, a0, q, nx, d, show rest.length + 1 + 1 + 1 + 1 ≤ 16777216 by omega, -fEq_ss]
      · have ch : e_checked_deed.fn [.tup (.str w :: ds)] = .exc "BadDeed" := checked_no sn (by
          cases k : deedB w ds with
          | false => rfl
          | true => obtain ⟨x, ok, e⟩ := x k; exact absurd e (no x ok))
        simp [sp, lc, sl, a0, q, nx, d, ch, show rest.length + 1 + 1 + 1 + 1 ≤ 16777216 by omega, -fEq_ss]
theorem lnW_get : ∀ {l : List (Str × Int)} {i : Nat} {z : Str}, (lnW l)[i]? = some z → (i % 2 = 0 ∧ ∃ p ∈ l, z = p.1) ∨ (i % 2 = 1 ∧ ∃ p ∈ l, z = numS p.2)
  | [], _, _, h => by cases h
  | p :: l, 0, z, h => .inl ⟨rfl, p, .head _, (Option.some.inj h).symm⟩
  | p :: l, 1, z, h => .inr ⟨rfl, p, .head _, (Option.some.inj h).symm⟩
  | p :: l, i + 2, z, h => by
    have h' : (lnW l)[i]? = some z := h
    rcases lnW_get h' with ⟨a, q, m, e⟩ | ⟨a, q, m, e⟩
    · exact .inl ⟨by omega, q, .tail _ m, e⟩
    · exact .inr ⟨by omega, q, .tail _ m, e⟩
def numAt (w : Str) (i : Nat) : Bool :=
  if w = "fix" then decide (4 ≤ i ∧ i % 2 = 0) else if w = "buy" then decide (i = 2 ∨ (5 ≤ i ∧ i % 2 = 1)) else if w = "spend" then decide (i = 2 ∨ i = 4)
  else if w = "back" then decide (i = 2) else decide (i = 2 ∨ 5 ≤ i)
def lenB (w : Str) (n : Nat) : Bool :=
  if w = "fix" then decide (5 ≤ n ∧ n ≤ 19 ∧ n % 2 = 1) else if w = "buy" then decide (6 ≤ n ∧ n ≤ 20 ∧ n % 2 = 0) else if w = "spend" then decide (5 ≤ n ∧ n ≤ 13)
  else if w = "back" then decide (n = 4) else if w = "lend" then decide (n = 7) else decide (n = 6)
theorem na_fix (i : Nat) : numAt "fix" i = decide (4 ≤ i ∧ i % 2 = 0) := rfl
theorem na_buy (i : Nat) : numAt "buy" i = decide (i = 2 ∨ (5 ≤ i ∧ i % 2 = 1)) := by unfold numAt; rw [if_neg (by decide +kernel), if_pos rfl]
theorem na_spend (i : Nat) : numAt "spend" i = decide (i = 2 ∨ i = 4) := by unfold numAt; rw [if_neg (by decide +kernel), if_neg (by decide +kernel), if_pos rfl]
theorem na_back (i : Nat) : numAt "back" i = decide (i = 2) := by unfold numAt; rw [if_neg (by decide +kernel), if_neg (by decide +kernel), if_neg (by decide +kernel), if_pos rfl]
theorem na_give (i : Nat) : numAt "give" i = decide (i = 2 ∨ 5 ≤ i) := by unfold numAt; rw [if_neg (by decide +kernel), if_neg (by decide +kernel), if_neg (by decide +kernel), if_neg (by decide +kernel)]
theorem na_chg (i : Nat) : numAt "change" i = decide (i = 2 ∨ 5 ≤ i) := by unfold numAt; rw [if_neg (by decide +kernel), if_neg (by decide +kernel), if_neg (by decide +kernel), if_neg (by decide +kernel)]
theorem na_lend (i : Nat) : numAt "lend" i = decide (i = 2 ∨ 5 ≤ i) := by unfold numAt; rw [if_neg (by decide +kernel), if_neg (by decide +kernel), if_neg (by decide +kernel), if_neg (by decide +kernel)]
theorem lb_fix (n : Nat) : lenB "fix" n = decide (5 ≤ n ∧ n ≤ 19 ∧ n % 2 = 1) := rfl
theorem lb_buy (n : Nat) : lenB "buy" n = decide (6 ≤ n ∧ n ≤ 20 ∧ n % 2 = 0) := by unfold lenB; rw [if_neg (by decide +kernel), if_pos rfl]
theorem lb_spend (n : Nat) : lenB "spend" n = decide (5 ≤ n ∧ n ≤ 13) := by unfold lenB; rw [if_neg (by decide +kernel), if_neg (by decide +kernel), if_pos rfl]
theorem lb_back (n : Nat) : lenB "back" n = decide (n = 4) := by unfold lenB; rw [if_neg (by decide +kernel), if_neg (by decide +kernel), if_neg (by decide +kernel), if_pos rfl]
theorem lb_lend (n : Nat) : lenB "lend" n = decide (n = 7) := by unfold lenB; rw [if_neg (by decide +kernel), if_neg (by decide +kernel), if_neg (by decide +kernel), if_neg (by decide +kernel), if_pos rfl]
theorem lb_give (n : Nat) : lenB "give" n = decide (n = 6) := by unfold lenB; rw [if_neg (by decide +kernel), if_neg (by decide +kernel), if_neg (by decide +kernel), if_neg (by decide +kernel), if_neg (by decide +kernel)]
theorem lb_chg (n : Nat) : lenB "change" n = decide (n = 6) := by unfold lenB; rw [if_neg (by decide +kernel), if_neg (by decide +kernel), if_neg (by decide +kernel), if_neg (by decide +kernel), if_neg (by decide +kernel)]
theorem kn_n {w : Str} {i : Nat} {z : Str} {n : Int} (h : Num n) (c : numAt w i = true) (e : z = numS n) : (numAt w i = true ∧ ∃ n, Num n ∧ z = numS n) ∨ (numAt w i = false ∧ isName z = true) := .inl ⟨c, n, h, e⟩
theorem kn_s {w : Str} {i : Nat} {z r : Str} (h : isName r = true) (c : numAt w i = false) (e : z = r) : (numAt w i = true ∧ ∃ n, Num n ∧ z = numS n) ∨ (numAt w i = false ∧ isName z = true) := .inr ⟨c, e ▸ h⟩
theorem kind_ok {x : Deed} (k : x.Ok) {i : Nat} (hi : 1 ≤ i) {z : Str} (h : x.ws[i]? = some z) : (numAt x.w i = true ∧ ∃ n, Num n ∧ z = numS n) ∨ (numAt x.w i = false ∧ isName z = true) := by
  cases x with
  | buy r d p l =>
    match i, hi with
    | 1, _ => exact kn_s k.1 (na_buy _) (Option.some.inj h).symm
    | 2, _ => exact kn_n k.2.1 (na_buy _) (Option.some.inj h).symm
    | 3, _ => exact kn_s k.2.2.1 (na_buy _) (Option.some.inj h).symm
    | i + 4, _ =>
      rcases lnW_get (show (lnW l)[i]? = some z from h) with ⟨a, q, m, e⟩ | ⟨a, q, m, e⟩
      · exact kn_s (k.2.2.2.ok q m).1 (by show numAt "buy" _ = _; rw [na_buy]; exact decide_eq_false (by omega)) e
      · exact kn_n (k.2.2.2.ok q m).2 (by show numAt "buy" _ = _; rw [na_buy]; exact decide_eq_true (by omega)) e
  | spend r d p n f =>
    match i, hi with
    | 1, _ => exact kn_s k.1 (na_spend _) (Option.some.inj h).symm
    | 2, _ => exact kn_n k.2.1 (na_spend _) (Option.some.inj h).symm
    | 3, _ => exact kn_s k.2.2.1 (na_spend _) (Option.some.inj h).symm
    | 4, _ => exact kn_n k.2.2.2.1.2 (na_spend _) (Option.some.inj h).symm
    | i + 5, _ =>
      have m : z ∈ f := List.mem_of_getElem? (show f[i]? = some z from h)
      exact kn_s (k.2.2.2.2.nm z m) (by show numAt "spend" _ = _; rw [na_spend]; exact decide_eq_false (by omega)) rfl
  | give r d p o n =>
    match i, hi with
    | 1, _ => exact kn_s k.1 (na_give _) (Option.some.inj h).symm
    | 2, _ => exact kn_n k.2.1 (na_give _) (Option.some.inj h).symm
    | 3, _ => exact kn_s k.2.2.1 (na_give _) (Option.some.inj h).symm
    | 4, _ => exact kn_s k.2.2.2.1 (na_give _) (Option.some.inj h).symm
    | 5, _ => exact kn_n k.2.2.2.2.2.2 (na_give _) (Option.some.inj h).symm
    | i + 6, _ => cases (show ([] : List Str)[i]? = some z from h)
  | chg r d p o n =>
    match i, hi with
    | 1, _ => exact kn_s k.1 (na_chg _) (Option.some.inj h).symm
    | 2, _ => exact kn_n k.2.1 (na_chg _) (Option.some.inj h).symm
    | 3, _ => exact kn_s k.2.2.1 (na_chg _) (Option.some.inj h).symm
    | 4, _ => exact kn_s k.2.2.2.1 (na_chg _) (Option.some.inj h).symm
    | 5, _ => exact kn_n k.2.2.2.2.2.2 (na_chg _) (Option.some.inj h).symm
    | i + 6, _ => cases (show ([] : List Str)[i]? = some z from h)
  | lend r d p o n e =>
    match i, hi with
    | 1, _ => exact kn_s k.1 (na_lend _) (Option.some.inj h).symm
    | 2, _ => exact kn_n k.2.1 (na_lend _) (Option.some.inj h).symm
    | 3, _ => exact kn_s k.2.2.1 (na_lend _) (Option.some.inj h).symm
    | 4, _ => exact kn_s k.2.2.2.1 (na_lend _) (Option.some.inj h).symm
    | 5, _ => exact kn_n k.2.2.2.2.2.1.2 (na_lend _) (Option.some.inj h).symm
    | 6, _ => exact kn_n k.2.2.2.2.2.2.2 (na_lend _) (Option.some.inj h).symm
    | i + 7, _ => cases (show ([] : List Str)[i]? = some z from h)
  | back r d o =>
    match i, hi with
    | 1, _ => exact kn_s k.1 (na_back _) (Option.some.inj h).symm
    | 2, _ => exact kn_n k.2.1 (na_back _) (Option.some.inj h).symm
    | 3, _ => exact kn_s k.2.2.1 (na_back _) (Option.some.inj h).symm
    | i + 4, _ => cases (show ([] : List Str)[i]? = some z from h)
  | fix r o l =>
    match i, hi with
    | 1, _ => exact kn_s k.1 rfl (Option.some.inj h).symm
    | 2, _ => exact kn_s k.2.1 rfl (Option.some.inj h).symm
    | i + 3, _ =>
      rcases lnW_get (show (lnW l)[i]? = some z from h) with ⟨a, q, m, e⟩ | ⟨a, q, m, e⟩
      · exact kn_s (k.2.2.2.ok q m).1 (by show numAt "fix" _ = _; rw [na_fix]; exact decide_eq_false (by omega)) e
      · exact kn_n (k.2.2.2.ok q m).2 (by show numAt "fix" _ = _; rw [na_fix]; exact decide_eq_true (by omega)) e
theorem len_ok {x : Deed} (k : x.Ok) : lenB x.w x.ws.length = true := by
  cases x with
  | buy r d p l =>
    have := k.2.2.2.lo; have := k.2.2.2.hi; have := lnW_len l
    show lenB "buy" _ = _
    rw [lb_buy]; exact decide_eq_true (by simp [Deed.ws]; omega)
  | spend r d p n f =>
    have := k.2.2.2.2.hi
    show lenB "spend" _ = _
    rw [lb_spend]; exact decide_eq_true (by simp [Deed.ws]; omega)
  | give r d p o n => exact lb_give _
  | chg r d p o n => exact lb_chg _
  | lend r d p o n e => exact lb_lend _
  | back r d o => exact lb_back _
  | fix r o l =>
    have := k.2.2.2.lo; have := k.2.2.2.hi; have := lnW_len l
    show lenB "fix" _ = _
    rw [lb_fix]; exact decide_eq_true (by simp [Deed.ws]; omega)
theorem Deed.w7 (x : Deed) : x.w ∈ words7 := by cases x <;> simp [Deed.w, words7]
theorem numS_inj {i j : Int} (h : Num i) (g : Num j) (e : numS i = numS j) : i = j := by
  have a := (num_okS h).2
  rw [e, (num_okS g).2] at a
  exact (Option.some.inj a).symm
structure Facts (w : Str) (ws : List Str) : Prop where
  sp : w = "spend" → (ws.drop 5).Nodup ∧ ws[4]? ≠ some ("0" : Str)
  mv : w = "give" ∨ w = "change" ∨ w = "lend" → ws[3]? ≠ ws[4]? ∧ ws[5]? ≠ some ("0" : Str)
  ld : w = "lend" → ws[6]? ≠ ws[2]?
  bk : w = "back" → ws[3]? ≠ ws[1]?
  fx : w = "fix" → ws[2]? ≠ ws[1]?
theorem n0 {n : Int} (h : 1 ≤ n) (g : Num n) : some (numS n) ≠ some ("0" : Str) := fun e => by
  have := numS_inj (j := 0) g ⟨by omega, by omega⟩ (by rw [Option.some.inj e]; decide +kernel)
  omega
theorem facts {x : Deed} (k : x.Ok) : Facts x.w x.ws := by
  cases x with
  | buy r d p l => show Facts "buy" _; exact ⟨fun e => absurd e (by decide +kernel), fun e => absurd e (by decide +kernel), fun e => absurd e (by decide +kernel), fun e => absurd e (by decide +kernel), fun e => absurd e (by decide +kernel)⟩
  | spend r d p n f => show Facts "spend" _; exact ⟨fun _ => ⟨k.2.2.2.2.nd, n0 k.2.2.2.1.1 k.2.2.2.1.2⟩, fun e => absurd e (by decide +kernel), fun e => absurd e (by decide +kernel), fun e => absurd e (by decide +kernel), fun e => absurd e (by decide +kernel)⟩
  | give r d p o n => show Facts "give" _; exact ⟨fun e => absurd e (by decide +kernel), fun _ => ⟨fun e => k.2.2.2.2.1 (Option.some.inj e), n0 k.2.2.2.2.2.1 k.2.2.2.2.2.2⟩, fun e => absurd e (by decide +kernel), fun e => absurd e (by decide +kernel), fun e => absurd e (by decide +kernel)⟩
  | chg r d p o n => show Facts "change" _; exact ⟨fun e => absurd e (by decide +kernel), fun _ => ⟨fun e => k.2.2.2.2.1 (Option.some.inj e), n0 k.2.2.2.2.2.1 k.2.2.2.2.2.2⟩, fun e => absurd e (by decide +kernel), fun e => absurd e (by decide +kernel), fun e => absurd e (by decide +kernel)⟩
  | lend r d p o n q => show Facts "lend" _; exact ⟨fun e => absurd e (by decide +kernel), fun _ => ⟨fun e => k.2.2.2.2.1 (Option.some.inj e), n0 k.2.2.2.2.2.1.1 k.2.2.2.2.2.1.2⟩, fun _ e => by
      have := numS_inj k.2.2.2.2.2.2.2 k.2.1 (Option.some.inj e)
      have := k.2.2.2.2.2.2.1
      omega, fun e => absurd e (by decide +kernel), fun e => absurd e (by decide +kernel)⟩
  | back r d o => show Facts "back" _; exact ⟨fun e => absurd e (by decide +kernel), fun e => absurd e (by decide +kernel), fun e => absurd e (by decide +kernel), fun _ e => k.2.2.2 (Option.some.inj e).symm, fun e => absurd e (by decide +kernel)⟩
  | fix r o l => show Facts "fix" _; exact ⟨fun e => absurd e (by decide +kernel), fun e => absurd e (by decide +kernel), fun e => absurd e (by decide +kernel), fun e => absurd e (by decide +kernel), fun _ e => k.2.2.1 (Option.some.inj e).symm⟩
theorem blank_tl : (" " : Str).cps.toList = 32 :: [] := by decide +kernel
theorem split_ws {x : Deed} (k : x.Ok) : Txt.split (Txt.join " " x.ws) " " = x.ws := TL.split_join blank_tl (by decide +kernel) (fun z => by have := (Deed.ws_d k).1; rw [z] at this; simp at this) fun p hp => (Deed.wd k p hp).2.1
theorem join_len {x : Deed} (k : x.Ok) : (Txt.join " " x.ws).length ≤ 1000 := by
  rw [TL.join_eq]
  have wl := Deed.ws_len k
  have sl := sum_le (zs := x.ws) (n := 12) fun z m => (Deed.wd k z m).2.2
  cases e : x.ws with
  | nil => decide +kernel
  | cons a l =>
    have := PyProof.Rows.len_join_cons " " a l
    rw [e] at wl sl
    have e1 : (" " : Str).length = 1 := by decide +kernel
    rw [this, e1]
    simp at wl sl ⊢
    omega
theorem filter_ws {x : Deed} (k : x.Ok) : x.ws.filter (fun z : Str => !decide (z = "")) = x.ws := List.filter_eq_self.mpr fun z m => by
  have := (Deed.wd k z m).1
  simp [this]
theorem join_tl (ws : List Str) : (Txt.join " " ws).cps.toList = TL.joinL [32] (ws.map TL.tl) := by
  rw [TL.join_eq]
  exact (TL.tl_join " " ws).trans (by rw [show TL.tl (" " : Str) = [32] by decide +kernel])
theorem joinL_glue {x b : List Nat} {B : List (List Nat)} : ∀ {A : List (List Nat)}, TL.joinL [32] (A ++ (x ++ b) :: B) = TL.joinL [32] (A ++ [x]) ++ TL.joinL [32] (b :: B)
  | [] => by cases B <;> simp [TL.joinL]
  | [a] => by
    have := joinL_glue (x := x) (b := b) (B := B) (A := [])
    simp [TL.joinL] at this ⊢
    rw [this]
  | a :: c :: A => by
    have := joinL_glue (x := x) (b := b) (B := B) (A := c :: A)
    simp [TL.joinL] at this ⊢
    rw [this]
theorem joinL_app {b : List Nat} {B : List (List Nat)} : ∀ {A : List (List Nat)}, A ≠ [] → TL.joinL [32] (A ++ b :: B) = TL.joinL [32] A ++ [32] ++ TL.joinL [32] (b :: B)
  | [a], _ => by simp [TL.joinL]
  | a :: c :: A, _ => by
    have := joinL_app (b := b) (B := B) (A := c :: A) (by simp)
    simp [TL.joinL] at this ⊢
    rw [this]
structure Sane (ws : List Str) : Prop where
  hi : ws.length ≤ 60
  ok : ∀ z ∈ ws, z ≠ "" ∧ 32 ∉ z.cps.toList ∧ z.length ≤ 100
def Bad (ws : List Str) : Prop := ∀ x : Deed, x.Ok → x.ws ≠ ws
theorem Deed.sane {x : Deed} (k : x.Ok) : Sane x.ws := ⟨by have := Deed.ws_len k; omega, fun z m => by
  obtain ⟨a, b, c⟩ := Deed.wd k z m
  exact ⟨a, b, by omega⟩⟩
theorem join_any {ws : List Str} (h : Sane ws) : fJoin (.str " ") (.lst (ws.map .str)) = some (.str (Txt.join " " ws)) := by
  show ((strsD (ws.map D.str)).bind fun ys => if joinOk " " ys = true then some (D.str (Txt.join " " ys)) else none) = _
  rw [strs_map, Option.bind_some, if_pos]
  unfold joinOk
  have := sum_le (zs := ws) (n := 100) fun z m => (h.ok z m).2.2
  have := h.hi
  have e : (" " : Str).length = 1 := by decide +kernel
  rw [e]
  exact decide_eq_true (by omega)
theorem join_l {ws : List Str} (h : Sane ws) : (Txt.join " " ws).length ≤ 7000 := by
  rw [TL.join_eq]
  have wl := h.hi
  have sl := sum_le (zs := ws) (n := 100) fun z m => (h.ok z m).2.2
  cases e : ws with
  | nil => decide +kernel
  | cons a l =>
    have := PyProof.Rows.len_join_cons " " a l
    rw [e] at wl sl
    have e1 : (" " : Str).length = 1 := by decide +kernel
    rw [this, e1]
    simp at wl sl ⊢
    omega
theorem refuse {ws : List Str} (h : Sane ws) (b : Bad ws) : e_read_deed.fn [.str (Txt.join " " ws)] = .exc "BadDeed" := by
  refine read_any (ws := ws) ?_ (by have := join_l h; omega) (by have := h.hi; omega) (fun z m => by have := (h.ok z m).2.2; omega) b
  cases ws with
  | nil => decide +kernel
  | cons w r =>
    rw [TL.split_join blank_tl (by decide +kernel) (fun z => by cases z) fun p hp => (h.ok p hp).2.1]
    exact List.filter_eq_self.mpr fun z m => by
      have := (h.ok z m).1
      simp [this]
theorem Sane.sub {a b : List Str} (h : Sane a) (s : ∀ z ∈ b, z ∈ a) (l : b.length ≤ a.length) : Sane b := ⟨by have := h.hi; omega, fun z m => h.ok z (s z m)⟩
theorem glue {A B : List Str} {a s b : Str} : Txt.join " " (A ++ [a]) ++ s ++ Txt.join " " (b :: B) = Txt.join " " (A ++ (a ++ s ++ b) :: B) := TL.ext_tl (by
  rw [TL.tl_append, TL.tl_append]
  show (Txt.join " " _).cps.toList ++ TL.tl s ++ (Txt.join " " _).cps.toList = (Txt.join " " _).cps.toList
  rw [join_tl, join_tl, join_tl, List.map_append, List.map_append, List.map_cons, List.map_cons, List.map_cons, List.map_nil, TL.tl_append, TL.tl_append, joinL_glue]
  have := joinL_glue (x := TL.tl a) (b := TL.tl s) (B := []) (A := A.map TL.tl)
  rw [this]
  rfl)
theorem glueL {A B : List Str} {s b : Str} (h : A ≠ []) : Txt.join " " A ++ (" " ++ s) ++ Txt.join " " (b :: B) = Txt.join " " (A ++ (s ++ b) :: B) := TL.ext_tl (by
  rw [TL.tl_append, TL.tl_append, TL.tl_append]
  show (Txt.join " " _).cps.toList ++ (TL.tl (" " : Str) ++ TL.tl s) ++ (Txt.join " " _).cps.toList = (Txt.join " " _).cps.toList
  rw [join_tl, join_tl, join_tl, List.map_append, List.map_cons, List.map_cons, TL.tl_append, joinL_app (by simpa using h), show TL.tl (" " : Str) = [32] by decide +kernel]
  have := joinL_glue (x := TL.tl s) (b := TL.tl b) (B := B.map TL.tl) (A := [])
  rw [List.nil_append] at this
  rw [this]
  simp [TL.joinL])
theorem glueR {A B : List Str} {a s b : Str} : Txt.join " " (A ++ [a]) ++ (s ++ " ") ++ Txt.join " " (b :: B) = Txt.join " " (A ++ (a ++ s) :: b :: B) := TL.ext_tl (by
  rw [TL.tl_append, TL.tl_append, TL.tl_append]
  show (Txt.join " " _).cps.toList ++ (TL.tl s ++ TL.tl (" " : Str)) ++ (Txt.join " " _).cps.toList = (Txt.join " " _).cps.toList
  have e : A.map TL.tl ++ (TL.tl a ++ TL.tl s) :: TL.tl b :: B.map TL.tl = (A.map TL.tl ++ [TL.tl a ++ TL.tl s]) ++ TL.tl b :: B.map TL.tl := by simp
  have q1 := joinL_app (b := TL.tl b) (B := B.map TL.tl) (A := A.map TL.tl ++ [TL.tl a ++ TL.tl s]) (by simp)
  have q2 := joinL_glue (x := TL.tl a) (b := TL.tl s) (B := []) (A := A.map TL.tl)
  rw [join_tl, join_tl, join_tl, List.map_append, List.map_append, List.map_cons, List.map_cons, List.map_cons, List.map_nil, TL.tl_append, List.map_cons, e, q1, q2, show TL.tl (" " : Str) = [32] by decide +kernel]
  simp [TL.joinL])
def putL (ws : List Str) (p : Nat) (z : Str) : List Str := ws.take p ++ [z] ++ ws.drop (p + 1)
theorem putL_set {ws : List Str} {p : Nat} {z : Str} (h : p < ws.length) : putL ws p z = ws.set p z := by
  unfold putL
  rw [List.set_eq_take_append_cons_drop, if_pos h]
  simp
theorem putL_len {ws : List Str} {p : Nat} {z : Str} (h : p < ws.length) : (putL ws p z).length = ws.length := by rw [putL_set h]; simp
theorem putL_at {ws : List Str} {p : Nat} {z : Str} (h : p < ws.length) : (putL ws p z)[p]? = some z := by rw [putL_set h]; simp [h]
theorem putL_ne {ws : List Str} {p i : Nat} {z : Str} (h : p < ws.length) (n : p ≠ i) : (putL ws p z)[i]? = ws[i]? := by rw [putL_set h]; simp [n]
theorem putL_mem {ws : List Str} {p : Nat} {z y : Str} (m : y ∈ putL ws p z) : y ∈ ws ∨ y = z := by
  unfold putL at m
  rcases List.mem_append.mp m with m | m
  · rcases List.mem_append.mp m with m | m
    · exact .inl (List.mem_of_mem_take m)
    · exact .inr (by simpa using m)
  · exact .inl (List.mem_of_mem_drop m)
def SaneW (z : Str) : Prop := z ≠ "" ∧ 32 ∉ z.cps.toList ∧ z.length ≤ 100
theorem putL_sane {ws : List Str} {p : Nat} {z : Str} (s : Sane ws) (h : p < ws.length) (w : SaneW z) : Sane (putL ws p z) := ⟨by rw [putL_len h]; exact s.hi, fun y m => by
  rcases putL_mem m with m | rfl
  · exact s.ok y m
  · exact w⟩
theorem same_w {x y : Deed} {ws : List Str} (k : x.Ok) (e : x.ws = ws) (h : ws[0]? = some y.w) : x.w = y.w := by
  rw [← e, (Deed.ws_d k).2.2] at h
  exact Option.some.inj h
theorem bad_num {x : Deed} (k : x.Ok) {p : Nat} (h1 : 1 ≤ p) (h : p < x.ws.length) (n : numAt x.w p = true) {z : Str} (b : okNum z = false) : Bad (putL x.ws p z) := fun y ky e => by
  have w := same_w (y := x) ky e (by rw [putL_ne h (by omega)]; exact (Deed.ws_d k).2.2)
  have a := kind_ok ky h1 (z := z) (by rw [e]; exact putL_at h)
  rw [w] at a
  rcases a with ⟨_, q, hq, eq⟩ | ⟨c, _⟩
  · rw [eq, (num_okS hq).1] at b; cases b
  · rw [n] at c; cases c
theorem bad_name {x : Deed} (k : x.Ok) {p : Nat} (h1 : 1 ≤ p) (h : p < x.ws.length) (n : numAt x.w p = false) {z : Str} (b : isName z = false) : Bad (putL x.ws p z) := fun y ky e => by
  have w := same_w (y := x) ky e (by rw [putL_ne h (by omega)]; exact (Deed.ws_d k).2.2)
  have a := kind_ok ky h1 (z := z) (by rw [e]; exact putL_at h)
  rw [w] at a
  rcases a with ⟨c, _⟩ | ⟨_, c⟩
  · rw [n] at c; cases c
  · rw [c] at b; cases b
theorem bad_verb {ws : List Str} {z : Str} (h : ws[0]? = some z) (b : z ∉ words7) : Bad ws := fun y ky e => by
  rw [← e, (Deed.ws_d ky).2.2] at h
  exact b (Option.some.inj h ▸ Deed.w7 y)
theorem bad_len {x : Deed} {ws : List Str} (h : ws[0]? = some x.w) (b : lenB x.w ws.length = false) : Bad ws := fun y ky e => by
  have w := same_w (y := x) ky e h
  have := len_ok ky
  rw [w, e, b] at this
  cases this
theorem bad_few {ws : List Str} (h : ws.length < 4) : Bad ws := fun y ky e => by
  have := (Deed.ws_d ky).1
  rw [e] at this
  omega
theorem bad_fact {x : Deed} {ws : List Str} (h : ws[0]? = some x.w) (b : ¬ Facts x.w ws) : Bad ws := fun y ky e => by
  have w := same_w (y := x) ky e h
  have := facts ky
  rw [w, e] at this
  exact b this
def okC (c : Nat) : Prop := (97 ≤ c ∧ c ≤ 122) ∨ (48 ≤ c ∧ c ≤ 57)
theorem let_c {z : Str} (h : isName z = true) : ∀ c ∈ z.cps.toList, 97 ≤ c ∧ c ≤ 122 := fun c m => by
  unfold isName at h
  simp only [Bool.and_eq_true] at h
  have a := of_decide_eq_true (List.all_eq_true.mp h.2 c m)
  exact (show ∀ c ∈ ("abcdefghijklmnopqrstuvwxyz" : Str).cps.toList, 97 ≤ c ∧ c ≤ 122 by decide +kernel) c a
theorem num_c {n : Int} (h : Num n) : ∀ c ∈ (numS n).cps.toList, 48 ≤ c ∧ c ≤ 57 := fun c m => by
  obtain ⟨h1, h2⟩ := h
  obtain ⟨n, rfl⟩ : ∃ k : Nat, n = k := ⟨n.toNat, by omega⟩
  rw [numS_tl] at m
  exact TL.numL_digits n c m
theorem w7_c : ∀ w ∈ words7, ∀ c ∈ w.cps.toList, 97 ≤ c ∧ c ≤ 122 := by decide +kernel
theorem sign_ok {x : Deed} (k : x.Ok) : ∀ z ∈ x.ws, ∀ c ∈ z.cps.toList, okC c := fun z m c mc => by
  obtain ⟨i, e⟩ := List.mem_iff_getElem?.mp m
  by_cases h : i = 0
  · subst h
    rw [(Deed.ws_d k).2.2] at e
    cases e
    exact .inl (w7_c _ (Deed.w7 x) c mc)
  · rcases kind_ok k (by omega) e with ⟨_, n, hn, rfl⟩ | ⟨_, hn⟩
    · exact .inr (num_c hn c mc)
    · exact .inl (let_c hn c mc)
theorem bad_sign {ws : List Str} {z : Str} {c : Nat} (m : z ∈ ws) (mc : c ∈ z.cps.toList) (b : ¬ okC c) : Bad ws := fun y ky e => b (sign_ok ky z (e ▸ m) c mc)
def dig (z : Str) : Bool := decide (z.cps.toList.getD 0 0 ∈ FIG.cps.toList)
theorem dig_num {n : Int} (h : Num n) : dig (numS n) = true := by
  unfold dig
  refine decide_eq_true (fig_mem.mpr (num_c h _ ?_))
  have l := (num_okS h).1
  unfold okNum at l
  simp only [Bool.and_eq_true, decide_eq_true_eq] at l
  have : 0 < (numS n).cps.toList.length := l.1.1.1
  rw [List.getD_eq_getElem?_getD, List.getElem?_eq_getElem this]
  exact List.getElem_mem this
theorem dig_let {z : Str} (h1 : 1 ≤ z.length) (h : ∀ c ∈ z.cps.toList, 97 ≤ c ∧ c ≤ 122) : dig z = false := by
  unfold dig
  refine decide_eq_false fun m => ?_
  have a := fig_mem.mp m
  have : 0 < z.cps.toList.length := h1
  rw [List.getD_eq_getElem?_getD, List.getElem?_eq_getElem this] at a
  have := h _ (List.getElem_mem this)
  rw [Option.getD_some] at a
  omega
theorem dig_at {x : Deed} (k : x.Ok) {i : Nat} {z : Str} (h : x.ws[i]? = some z) : (dig z = true ∧ 1 ≤ i ∧ numAt x.w i = true) ∨ (dig z = false ∧ (1 ≤ i → numAt x.w i = false)) := by
  by_cases c : i = 0
  · subst c
    rw [(Deed.ws_d k).2.2] at h
    cases h
    have := (wd_word _ (Deed.w7 x)).1
    exact .inr ⟨dig_let (by
      have : ∀ w ∈ words7, 1 ≤ w.length := by decide +kernel
      exact this _ (Deed.w7 x)) (w7_c _ (Deed.w7 x)), fun h => by omega⟩
  · rcases kind_ok k (by omega) h with ⟨a, n, hn, rfl⟩ | ⟨a, hn⟩
    · exact .inl ⟨dig_num hn, by omega, a⟩
    · exact .inr ⟨dig_let (isName_l hn).1 (let_c hn), fun _ => a⟩
def numP (ws : List Str) : List Nat := (List.range ws.length).filter fun i => dig (ws.getD i "")
def namP (ws : List Str) : List Nat := ((List.range (ws.length - 1)).map (· + 1)).filter fun i => !dig (ws.getD i "")
theorem numP_mem {x : Deed} (k : x.Ok) {i : Nat} (m : i ∈ numP x.ws) : 1 ≤ i ∧ i < x.ws.length ∧ numAt x.w i = true := by
  unfold numP at m
  obtain ⟨a, b⟩ := List.mem_filter.mp m
  have l := List.mem_range.mp a
  have e : x.ws[i]? = some (x.ws.getD i "") := by rw [List.getD_eq_getElem?_getD, List.getElem?_eq_getElem l]; rfl
  rcases dig_at k e with ⟨_, q, r⟩ | ⟨q, _⟩
  · exact ⟨q, l, r⟩
  · rw [q] at b; cases b
theorem namP_mem {x : Deed} (k : x.Ok) {i : Nat} (m : i ∈ namP x.ws) : 1 ≤ i ∧ i < x.ws.length ∧ numAt x.w i = false := by
  unfold namP at m
  obtain ⟨a, b⟩ := List.mem_filter.mp m
  obtain ⟨j, mj, rfl⟩ := List.mem_map.mp a
  have l := List.mem_range.mp mj
  have e : x.ws[j + 1]? = some (x.ws.getD (j + 1) "") := by rw [List.getD_eq_getElem?_getD, List.getElem?_eq_getElem (by omega)]; rfl
  rcases dig_at k e with ⟨q, _⟩ | ⟨_, q⟩
  · rw [q] at b; cases b
  · exact ⟨by omega, by omega, q (by omega)⟩
theorem numAt_some {w : Str} : numAt w 2 = true ∨ numAt w 4 = true := by
  unfold numAt
  by_cases c : w = "fix"
  · rw [if_pos c, if_pos c]; exact .inr rfl
  · rw [if_neg c, if_neg c]
    refine .inl ?_
    split
    · rfl
    split
    · rfl
    split <;> rfl
theorem numP_some {x : Deed} (k : x.Ok) : numP x.ws ≠ [] := fun e => by
  have h5 : x.w = "fix" → 5 ≤ x.ws.length := fun g => by
    have := len_ok k
    rw [g, lb_fix] at this
    exact (of_decide_eq_true this).1
  have l4 := (Deed.ws_d k).1
  have H : ∀ i, 1 ≤ i → i < x.ws.length → numAt x.w i = true → False := fun i h1 hi n => by
    have q : x.ws[i]? = some (x.ws.getD i "") := by rw [List.getD_eq_getElem?_getD, List.getElem?_eq_getElem hi]; rfl
    rcases dig_at k q with ⟨a, _⟩ | ⟨_, a⟩
    · have : i ∈ numP x.ws := List.mem_filter.mpr ⟨List.mem_range.mpr hi, a⟩
      rw [e] at this; cases this
    · rw [n] at a; cases a h1
  by_cases c : x.w = "fix"
  · refine H 4 (by omega) (by have := h5 c; omega) ?_
    rw [c]; rfl
  · refine H 2 (by omega) (by omega) ?_
    rcases numAt_some (w := x.w) with h | h
    · exact h
    · unfold numAt
      rw [if_neg c]
      split
      · rfl
      split
      · rfl
      split <;> rfl
theorem namP_some {x : Deed} (k : x.Ok) : namP x.ws ≠ [] := fun e => by
  have l4 := (Deed.ws_d k).1
  have q : x.ws[1]? = some (x.ws.getD 1 "") := by rw [List.getD_eq_getElem?_getD, List.getElem?_eq_getElem (by omega)]; rfl
  have n : numAt x.w 1 = false := by
    unfold numAt
    split
    · rfl
    split
    · rfl
    split
    · rfl
    split <;> rfl
  rcases dig_at k q with ⟨_, _, a⟩ | ⟨a, _⟩
  · rw [n] at a; cases a
  · have : 1 ∈ namP x.ws := List.mem_filter.mpr ⟨List.mem_map.mpr ⟨0, List.mem_range.mpr (by omega), rfl⟩, by rw [a]; rfl⟩
    rw [e] at this; cases this
noncomputable def nd_0 : Sl → RS := (sIf (mAnd (mB (mVar 2)) (mB (m2 fIn (m2 fIx (mVar 0) (mC (.int 0))) (mTup (mCons (mC (.str "buy")) (mCons (mC (.str "fix")) mNil)))))) (sRet (mS1 fJoin (mC (.str " ")) (m2 fAdd (mSl (mVar 1) mNoP (mP (m2 fSub (mC (.int 4)) (mF fInt (mCons (m2 fEq (m2 fIx (mVar 0) (mC (.int 0))) (mC (.str "fix"))) mNil))))) (mFr (mRepL (mCons (mC (.str "tea")) (mCons (mC (.str "1")) mNil)) (mC (.int 9))))))) sNext)
noncomputable def nd_1 : Sl → RS := (sIf (mB (m2 fEq (m2 fIx (mVar 0) (mC (.int 0))) (mC (.str "spend")))) (sRet (mS1 fJoin (mC (.str " ")) (m2 fAdd (mSl (mVar 1) mNoP (mP (mC (.int 5)))) (m2 fIx (mFr (mLst (mCons (mFr (mFO fListS (mCons (mC (.str "abcdefghi")) mNil))) (mCons (mFr (mLst (mCons (mC (.str "b")) (mCons (mC (.str "a")) (mCons (mC (.str "b")) mNil))))) mNil)))) (mF fInt (mCons (vNot (mVar 2)) mNil)))))) sNext)
noncomputable def nd_2 : Sl → RS := (sIf (mB (m2 fEq (m2 fIx (mVar 0) (mC (.int 0))) (mC (.str "back")))) (sRetO (mCall e_x_law_put.fn (mCons (mVar 1) (mCons (mC (.int 3)) (mCons (m2 fIx (mVar 1) (mC (.int 1))) mNil))))) sNext)
noncomputable def nd_3 : Sl → RS := (sIf (mB (m2 fEq (m2 fIx (mVar 0) (mC (.int 0))) (mC (.str "fix")))) (sRetO (mCall e_x_law_put.fn (mCons (mVar 1) (mCons (mC (.int 2)) (mCons (m2 fIx (mVar 1) (mC (.int 1))) mNil))))) sNext)
noncomputable def nd_4 : Sl → RS := (sIf (mB (m2 fEq (m2 fIx (mVar 0) (mC (.int 0))) (mC (.str "buy")))) (sRet (mS1 fJoin (mC (.str " ")) (mSl (mVar 1) mNoP (mP (mC (.int 4)))))) sNext)
noncomputable def nd_5 : Sl → RS := (sRetO (mCall e_x_law_put.fn (mCons (mVar 1) (mCons (mC (.int 4)) (mCons (m2 fIx (mVar 1) (mC (.int 3))) mNil)))))
theorem nd_eq : m_x_law_no_deed = (sSeq nd_0 (sSeq nd_1 (sSeq nd_2 (sSeq nd_3 (sSeq nd_4 nd_5))))) := rfl
def Sp (r : R O) : Prop := ∃ ws : List Str, r = .ok (.v (.str (Txt.join " " ws))) ∧ Sane ws ∧ Bad ws
theorem put_ok {ws : List Str} {p : Nat} {z : Str} (s : Sane (putL ws p z)) (h : p < ws.length) (hl : ws.length ≤ 60) : e_x_law_put.fn [.lst (ws.map .str), .int (p : Int), .str z] = .ok (.v (.str (Txt.join " " (putL ws p z)))) := by
  have c1 : cut (ws.map D.str) none (some (p : Int)) = (ws.take p).map D.str := by rw [cut_pre_l (by simp; omega), List.map_take]
  have c2 : cut (ws.map D.str) (some ((p : Int) + 1)) none = (ws.drop (p + 1)).map D.str := by rw [show (p : Int) + 1 = ((p + 1 : Nat) : Int) by omega, cut_suf_l (by simp; omega), List.map_drop]
  have j := join_any s
  have e : (putL ws p z).map D.str = (ws.take p).map D.str ++ .str z :: (ws.drop (p + 1)).map D.str := by unfold putL; simp
  rw [e] at j
  have l1 : ((ws.take p).map D.str).length ≤ 60 := by simp; omega
  have l2 : ((ws.drop (p + 1)).map D.str).length ≤ 60 := by simp; omega
  simp only [e_x_law_put, runD, m_x_law_put, sl0]
  generalize (ws.take p).map D.str = A at *
  generalize (ws.drop (p + 1)).map D.str = B at *
  generalize Txt.join " " (putL ws p z) = t at *
  generalize ws.map D.str = W at *
  simp [c1, c2, j, show A.length + 1 ≤ 16777216 by omega, show A.length + (1 + B.length) ≤ 16777216 by omega, show A.length + 1 + B.length ≤ 16777216 by omega]
theorem put_sp {ws : List Str} {p : Nat} {z : Str} (s : Sane ws) (h : p < ws.length) (w : SaneW z) (b : Bad (putL ws p z)) : Sp (e_x_law_put.fn [.lst (ws.map .str), .int (p : Int), .str z]) := ⟨_, put_ok (putL_sane s h w) h s.hi, putL_sane s h w, b⟩
theorem ws_get {ws : List Str} {i : Nat} (h : i < ws.length) : ∃ z, ws[i]? = some z ∧ z ∈ ws ∧ atI (ws.map D.str) (i : Int) = some (.str z) :=
  ⟨ws[i], List.getElem?_eq_getElem h, List.getElem_mem h, at_lit (by rw [List.getElem?_map, List.getElem?_eq_getElem h]; rfl)⟩
def teas : List Str := ["tea", "1", "tea", "1", "tea", "1", "tea", "1", "tea", "1", "tea", "1", "tea", "1", "tea", "1", "tea", "1"]
theorem teas_ok : ∀ z ∈ teas, SaneW z := by unfold SaneW; decide +kernel
def nine : List Str := ["a", "b", "c", "d", "e", "f", "g", "h", "i"]
theorem nine_ok : ∀ z ∈ nine, SaneW z := by unfold SaneW; decide +kernel
def bab : List Str := ["b", "a", "b"]
theorem bab_ok : ∀ z ∈ bab, SaneW z := by unfold SaneW; decide +kernel
theorem app_sane {a b : List Str} (h : Sane a) (l : a.length ≤ 30) (l2 : b.length ≤ 30) (g : ∀ z ∈ b, SaneW z) : Sane (a ++ b) := ⟨by rw [List.length_append]; omega, fun z m => by
  rcases List.mem_append.mp m with m | m
  · exact h.ok z m
  · exact g z m⟩
theorem take_sane {a : List Str} {n : Nat} (h : Sane a) : Sane (a.take n) := h.sub (fun z m => List.mem_of_mem_take m) (by simp; omega)
theorem take_at {a b : List Str} {n i : Nat} (h : i < n) (l : n ≤ a.length) : (a.take n ++ b)[i]? = a[i]? := by
  rw [List.getElem?_append_left (by simp; omega), List.getElem?_take, if_pos h]
theorem no_deed_ok {x : Deed} (k : x.Ok) (b : Bool) : Sp (e_x_law_no_deed.fn [x.d, .lst (x.ws.map .str), .bl b]) := by
  have e : x.d = .tup (.str x.w :: x.ps) := rfl
  have i0 : atI (.str x.w :: x.ps) 0 = some (.str x.w) := at_lit (n := 0) rfl
  have g7 := in_two (z := x.w) (a := "buy") (b := "fix")
  have s := Deed.sane k
  have l4 := (Deed.ws_d k).1
  have l30 := Deed.ws_len k
  have w0 := (Deed.ws_d k).2.2
  have lb := len_ok k
  have fc := facts k
  have w7 := Deed.w7 x
  have fe : ∀ z : Str, x.w = z → fEq (.str x.w) (.str z) = some (.bl true) := fun z e => w_eq e
  have fn : ∀ z : Str, ¬ x.w = z → fEq (.str x.w) (.str z) = some (.bl false) := fun z e => w_ne (decide_eq_false e)
  obtain ⟨z1, a1, m1, t1⟩ := ws_get (ws := x.ws) (i := 1) (by omega)
  obtain ⟨z3, a3, m3, t3⟩ := ws_get (ws := x.ws) (i := 3) (by omega)
  have sw1 := s.ok z1 m1
  have sw3 := s.ok z3 m3
  rw [e]
  simp only [e_x_law_no_deed, runD, nd_eq, sl0]
  show Sp (out ((sSeq nd_0 (sSeq nd_1 (sSeq nd_2 (sSeq nd_3 (sSeq nd_4 nd_5))))) [some (.v (.tup (.str x.w :: x.ps))), some (.v (.lst (x.ws.map .str))), some (.v (.bl b))]))
  have tk : ∀ n : Nat, n ≤ 4 ∨ (n = 5 ∧ x.w = "spend") → cut (x.ws.map D.str) none (some (n : Int)) = (x.ws.take n).map D.str := fun n h => by
    have : n ≤ x.ws.length := by
      rcases h with h | ⟨h, g⟩
      · omega
      · have := (Deed.ws_d k).2.1 g; omega
    rw [cut_pre_l (by simp; omega), List.map_take]
  by_cases c0 : b = true ∧ (x.w = "buy" ∨ x.w = "fix")
  · obtain ⟨rfl, c0⟩ := c0
    rw [decide_eq_true c0] at g7
    by_cases c1 : x.w = "fix"
    · have ct := tk 3 (by omega)
      have sn : Sane (x.ws.take 3 ++ teas) := app_sane (take_sane s) (by simp; omega) (by decide) teas_ok
      have j := join_any sn
      rw [List.map_append] at j
      refine ⟨x.ws.take 3 ++ teas, ?_, sn, bad_len (x := x) (by rw [take_at (by omega) (by omega)]; exact w0) (by rw [c1, lb_fix]; exact decide_eq_false (by simp [teas]; omega))⟩
      have lt : ((x.ws.take 3).map D.str).length ≤ 3 := by simp; omega
      generalize (x.ws.take 3).map D.str = A at *
      generalize x.ws.map D.str = W at *
      generalize Txt.join " " (x.ws.take 3 ++ teas) = t at *
      simp [teas] at j ct
      simp [nd_0, i0, g7, fe _ c1, ct, j, show A.length ≤ 16777198 by omega, -fEq_ss]
    · have cb : x.w = "buy" := by rcases c0 with h | h; exact h; exact absurd h c1
      have ct := tk 4 (by omega)
      have sn : Sane (x.ws.take 4 ++ teas) := app_sane (take_sane s) (by simp; omega) (by decide) teas_ok
      have j := join_any sn
      rw [List.map_append] at j
      refine ⟨x.ws.take 4 ++ teas, ?_, sn, bad_len (x := x) (by rw [take_at (by omega) (by omega)]; exact w0) (by rw [cb, lb_buy]; exact decide_eq_false (by simp [teas]; omega))⟩
      have lt : ((x.ws.take 4).map D.str).length ≤ 4 := by simp; omega
      generalize (x.ws.take 4).map D.str = A at *
      generalize x.ws.map D.str = W at *
      generalize Txt.join " " (x.ws.take 4 ++ teas) = t at *
      simp [teas] at j ct
      simp [nd_0, i0, g7, fn _ c1, ct, j, show A.length ≤ 16777198 by omega, -fEq_ss]
  have s0 : ∀ K : Sl → RS, (sSeq nd_0 K) [some (.v (.tup (.str x.w :: x.ps))), some (.v (.lst (x.ws.map .str))), some (.v (.bl b))] = K [some (.v (.tup (.str x.w :: x.ps))), some (.v (.lst (x.ws.map .str))), some (.v (.bl b))] := fun K => by
    generalize x.ws.map D.str = W at *
    cases b with
    | false => simp [nd_0]
    | true =>
      rw [decide_eq_false (fun h => c0 ⟨rfl, h⟩)] at g7
      simp [nd_0, i0, g7]
  have s0 := s0 (sSeq nd_1 (sSeq nd_2 (sSeq nd_3 (sSeq nd_4 nd_5))))
  rw [s0]
  by_cases c1 : x.w = "spend"
  · have ct := tk 5 (.inr ⟨rfl, c1⟩)
    have l5 := (Deed.ws_d k).2.1 c1
    have lt : ((x.ws.take 5).map D.str).length ≤ 5 := by simp; omega
    cases b with
    | true =>
      have sn : Sane (x.ws.take 5 ++ nine) := app_sane (take_sane s) (by simp; omega) (by decide) nine_ok
      have j := join_any sn
      rw [List.map_append] at j
      refine ⟨x.ws.take 5 ++ nine, ?_, sn, bad_len (x := x) (by rw [take_at (by omega) (by omega)]; exact w0) (by rw [c1, lb_spend]; exact decide_eq_false (by simp [nine]; omega))⟩
      generalize (x.ws.take 5).map D.str = A at *
      generalize x.ws.map D.str = W at *
      generalize Txt.join " " (x.ws.take 5 ++ nine) = t at *
      have e9 : fListS [.str "abcdefghi"] = some (.ml ((nine.map D.str).map .v)) := by
        unfold fListS
        dsimp only
        rw [if_pos (by decide +kernel), show signs "abcdefghi" = nine.map D.str by rfl]
      simp [nine] at j ct e9
      simp [nd_1, i0, fe _ c1, ct, j, e9, show A.length ≤ 16777207 by omega, show A.length ≤ 16777213 by omega, -fEq_ss]
    | false =>
      have sn : Sane (x.ws.take 5 ++ bab) := app_sane (take_sane s) (by simp; omega) (by decide) bab_ok
      have j := join_any sn
      rw [List.map_append] at j
      refine ⟨x.ws.take 5 ++ bab, ?_, sn, bad_fact (x := x) (by rw [take_at (by omega) (by omega)]; exact w0) (fun f => ?_)⟩
      · generalize (x.ws.take 5).map D.str = A at *
        generalize x.ws.map D.str = W at *
        generalize Txt.join " " (x.ws.take 5 ++ bab) = t at *
        have e9 : fListS [.str "abcdefghi"] = some (.ml ((nine.map D.str).map .v)) := by
          unfold fListS
          dsimp only
          rw [if_pos (by decide +kernel), show signs "abcdefghi" = nine.map D.str by rfl]
        simp [bab] at j ct
        simp [nd_1, i0, fe _ c1, ct, j, e9, show A.length ≤ 16777207 by omega, show A.length ≤ 16777213 by omega, -fEq_ss]
      · have := (f.sp c1).1
        rw [List.drop_left' (by simp; omega)] at this
        exact absurd this (by decide +kernel)
  have p3 := fun (w : SaneW z1) (b : Bad (putL x.ws 3 z1)) => put_sp s (show 3 < x.ws.length by omega) w b
  have p2 := fun (w : SaneW z1) (b : Bad (putL x.ws 2 z1)) => put_sp s (show 2 < x.ws.length by omega) w b
  have p4 := fun (h : 4 < x.ws.length) (w : SaneW z3) (b : Bad (putL x.ws 4 z3)) => put_sp s h w b
  by_cases c2 : x.w = "back"
  · obtain ⟨ws, p, q⟩ := p3 sw1 (bad_fact (x := x) (by rw [putL_ne (by omega) (by omega)]; exact w0) fun f => f.bk c2 (by rw [putL_at (by omega), putL_ne (by omega) (by omega), a1]))
    refine ⟨ws, ?_, q⟩
    generalize x.ws.map D.str = W at *
    simp at p t1
    simp [nd_1, nd_2, i0, fn _ c1, fe _ c2, t1, p, -fEq_ss]
  by_cases c3 : x.w = "fix"
  · obtain ⟨ws, p, q⟩ := p2 sw1 (bad_fact (x := x) (by rw [putL_ne (by omega) (by omega)]; exact w0) fun f => f.fx c3 (by rw [putL_at (by omega), putL_ne (by omega) (by omega), a1]))
    refine ⟨ws, ?_, q⟩
    generalize x.ws.map D.str = W at *
    simp at p t1
    simp [nd_1, nd_2, nd_3, i0, fn _ c1, fn _ c2, fe _ c3, t1, p, -fEq_ss]
  by_cases c4 : x.w = "buy"
  · have ct := tk 4 (by omega)
    have sn : Sane (x.ws.take 4) := take_sane s
    have j := join_any sn
    refine ⟨x.ws.take 4, ?_, sn, bad_len (x := x) (by rw [List.getElem?_take, if_pos (by omega)]; exact w0) (by rw [c4, lb_buy]; exact decide_eq_false (by simp; omega))⟩
    generalize (x.ws.take 4).map D.str = A at *
    generalize x.ws.map D.str = W at *
    generalize Txt.join " " (x.ws.take 4) = t at *
    simp at ct
    simp [nd_1, nd_2, nd_3, nd_4, i0, fn _ c1, fn _ c2, fn _ c3, fe _ c4, ct, j, -fEq_ss]
  · have mv : x.w = "give" ∨ x.w = "change" ∨ x.w = "lend" := by
      simp only [words7, List.mem_cons, List.not_mem_nil, or_false] at w7
      rcases w7 with h | h | h | h | h | h | h
      · exact absurd h c4
      · exact absurd h c1
      · exact .inl h
      · exact .inr (.inl h)
      · exact .inr (.inr h)
      · exact absurd h c2
      · exact absurd h c3
    have l5 : 4 < x.ws.length := by
      rcases mv with h | h | h
      · rw [h, lb_give] at lb; have := of_decide_eq_true lb; omega
      · rw [h, lb_chg] at lb; have := of_decide_eq_true lb; omega
      · rw [h, lb_lend] at lb; have := of_decide_eq_true lb; omega
    obtain ⟨ws, p, q⟩ := p4 l5 sw3 (bad_fact (x := x) (by rw [putL_ne (by omega) (by omega)]; exact w0) fun f => (f.mv mv).1 (by rw [putL_at (by omega), putL_ne (by omega) (by omega), a3]))
    refine ⟨ws, ?_, q⟩
    generalize x.ws.map D.str = W at *
    simp at p t3
    simp [nd_1, nd_2, nd_3, nd_4, nd_5, i0, fn _ c1, fn _ c2, fn _ c3, fn _ c4, t3, p, -fEq_ss]
noncomputable def so_0 : Sl → RS := (sSet 3 (mFr (mLc (mRg1 (mF fLen (mCons (mVar 1) mNil))) [4] (put 4) (mB (m2 fIn (m2 fIx (m2 fIx (mVar 1) (mVar 4)) (mC (.int 0))) (mC (.str "0123456789")))) l_x_law_spoiled_0)))
noncomputable def so_1 : Sl → RS := (sSet 5 (mFr (mLc (mRg2 (mC (.int 1)) (mF fLen (mCons (mVar 1) mNil))) [4] (put 4) (mB (m2 fNin (m2 fIx (m2 fIx (mVar 1) (mVar 4)) (mC (.int 0))) (mC (.str "0123456789")))) l_x_law_spoiled_1)))
noncomputable def so_2 : Sl → RS := (sSet 6 (m2 fMod (mVar 2) (mC (.int 9))))
noncomputable def so_3 : Sl → RS := (sSet 2 (m2 fDiv (mVar 2) (mC (.int 9))))
noncomputable def so_4 : Sl → RS := (sIf (mB (m2 fGt (mVar 6) (mC (.int 6)))) (sRetO (mCall e_x_law_no_deed.fn (mCons (mVar 0) (mCons (mVar 1) (mCons (m2 fEq (mVar 6) (mC (.int 8))) mNil))))) sNext)
noncomputable def so_5 : Sl → RS := (sIf (mB (m2 fEq (mVar 6) (mC (.int 0)))) (sSeq (sSet 7 (m2 fIx (mFr (mLst (mCons (m2 fAdd (mC (.str "0")) (m2 fIx (mVar 1) (m2 fIx (mVar 3) (mC (.int 0))))) (mCons (mC (.str "-1")) (mCons (mC (.str "+1")) (mCons (mC (.str "1.0")) (mCons (mC (.str "1000000000000")) (mCons (mC (.str "x")) (mCons (mC (.str "1e3")) (mCons (mC (.str "00")) (mCons (m2 fMulS (mC (.str "1")) (mC (.int 40))) (mCons (mC (.str "one")) mNil)))))))))))) (m2 fMod (mVar 2) (mC (.int 10))))) (sRetO (mCall e_x_law_put.fn (mCons (mVar 1) (mCons (m2 fIx (mVar 3) (m2 fMod (m2 fDiv (mVar 2) (mC (.int 10))) (mF fLen (mCons (mVar 3) mNil)))) (mCons (mVar 7) mNil)))))) sNext)
noncomputable def so_6 : Sl → RS := (sIf (mB (m2 fEq (mVar 6) (mC (.int 1)))) (sSeq (sSet 7 (m2 fIx (mFr (mLst (mCons (mC (.str "Ann")) (mCons (mC (.str "abcdefghi")) (mCons (mC (.str "an9")) (mCons (mC (.str "a.b")) (mCons (mC (.str "7")) (mCons (mC (.str "-")) (mCons (mC (.str "annA")) (mCons (mC (.str "0")) mNil)))))))))) (m2 fMod (mVar 2) (mC (.int 8))))) (sRetO (mCall e_x_law_put.fn (mCons (mVar 1) (mCons (m2 fIx (mVar 5) (m2 fMod (m2 fDiv (mVar 2) (mC (.int 8))) (mF fLen (mCons (mVar 5) mNil)))) (mCons (mVar 7) mNil)))))) sNext)
noncomputable def so_7 : Sl → RS := (sIf (mB (m2 fEq (mVar 6) (mC (.int 2)))) (sRetO (mCall e_x_law_put.fn (mCons (mVar 1) (mCons (mC (.int 0)) (mCons (m2 fIx (mFr (mLst (mCons (mC (.str "Buy")) (mCons (mC (.str "sell")) (mCons (mC (.str "buys")) (mCons (mC (.str "x")) (mCons (mC (.str "lends")) (mCons (mC (.str "7")) (mCons (mC (.str "BACK")) mNil))))))))) (m2 fMod (mVar 2) (mC (.int 7)))) mNil))))) sNext)
noncomputable def so_8 : Sl → RS := (sIf (mAnd (mB (m2 fEq (mVar 6) (mC (.int 3)))) (mOr (mB (m2 fNe (m2 fIx (mVar 0) (mC (.int 0))) (mC (.str "spend")))) (mB (m2 fEq (m2 fIx (mVar 0) (mC (.int 5))) (mTup mNil))))) (sRet (mS1 fJoin (mC (.str " ")) (mSl (mVar 1) mNoP (mP (m1 fNeg (mC (.int 1))))))) sNext)
noncomputable def so_9 : Sl → RS := (sIf (mAnd (mB (m2 fEq (mVar 6) (mC (.int 4)))) (mB (m2 fNe (m2 fIx (mVar 0) (mC (.int 0))) (mC (.str "spend"))))) (sRet (mS1 fJoin (mC (.str " ")) (m2 fAdd (mVar 1) (mFr (mLst (mCons (m2 fIx (mFr (mLst (mCons (mC (.str "zz")) (mCons (mC (.str "5")) mNil)))) (m2 fMod (mVar 2) (mC (.int 2)))) mNil)))))) sNext)
noncomputable def so_10 : Sl → RS := (sIf (mAnd (mB (m2 fEq (mVar 6) (mC (.int 5)))) (mB (m2 fIn (m2 fIx (mVar 0) (mC (.int 0))) (mTup (mCons (mC (.str "spend")) (mCons (mC (.str "give")) (mCons (mC (.str "change")) (mCons (mC (.str "lend")) mNil)))))))) (sSeq (sIf (mAnd (mB (m2 fEq (m2 fIx (mVar 0) (mC (.int 0))) (mC (.str "lend")))) (mB (m2 fEq (m2 fMod (mVar 2) (mC (.int 2))) (mC (.int 0))))) (sRetO (mCall e_x_law_put.fn (mCons (mVar 1) (mCons (mC (.int 6)) (mCons (m2 fIx (mVar 1) (mC (.int 2))) mNil))))) sNext) (sRetO (mCall e_x_law_put.fn (mCons (mVar 1) (mCons (m2 fAdd (mC (.int 4)) (mF fInt (mCons (m2 fNe (m2 fIx (mVar 0) (mC (.int 0))) (mC (.str "spend"))) mNil))) (mCons (mC (.str "0")) mNil)))))) sNext)
noncomputable def so_11 : Sl → RS := (sSet 8 (m2 fAdd (mC (.int 1)) (m2 fMod (mVar 2) (m2 fSub (mF fLen (mCons (mVar 1) mNil)) (mC (.int 1))))))
noncomputable def so_12 : Sl → RS := (sRet (m2 fAdd (m2 fAdd (mS1 fJoin (mC (.str " ")) (mSl (mVar 1) mNoP (mP (mVar 8)))) (m2 fIx (mFr (mLst (mCons (mC (.str "\n")) (mCons (mC (.str ",")) (mCons (mC (.str ".")) (mCons (mC (.str "/")) (mCons (mC (.str " \n")) (mCons (mC (.str "- ")) mNil)))))))) (m2 fMod (m2 fDiv (mVar 2) (mC (.int 50))) (mC (.int 6))))) (mS1 fJoin (mC (.str " ")) (mSl (mVar 1) (mP (mVar 8)) mNoP))))
theorem so_eq : m_x_law_spoiled = (sSeq so_0 (sSeq so_1 (sSeq so_2 (sSeq so_3 (sSeq so_4 (sSeq so_5 (sSeq so_6 (sSeq so_7 (sSeq so_8 (sSeq so_9 (sSeq so_10 (sSeq so_11 so_12)))))))))))) := rfl
def natsD (is : List Nat) : List D := is.map fun (i : Nat) => .int (i : Int)
def SL (d : D) (ws : List Str) (m : Int) : Sl := [some (.v d), some (.v (.lst (ws.map .str))), some (.v (.int (m / 9))), some (.v (.lst (natsD (numP ws)))), none, some (.v (.lst (natsD (namP ws)))), some (.v (.int (m % 9))), none, none]
theorem dig_in {z : Str} (h : 1 ≤ z.length) (h2 : z.length ≤ 100) : fIx (.str z) (.int 0) = some (.str (sgn z 0)) ∧ fIn (.str (sgn z 0)) (.str "0123456789") = some (.bl (dig z)) ∧ fNin (.str (sgn z 0)) (.str "0123456789") = some (.bl (!dig z)) :=
  ⟨fIx_sn (by omega) (by omega) (by omega), fIn_1, fNin_1⟩
theorem spoil_pre {d : D} {ws : List Str} {m : Int} (h4 : 4 ≤ ws.length) (hl : ws.length ≤ 60) (hz : ∀ z ∈ ws, 1 ≤ z.length ∧ z.length ≤ 100) (K : Sl → RS) :
    (sSeq so_0 (sSeq so_1 (sSeq so_2 (sSeq so_3 K)))) [some (.v d), some (.v (.lst (ws.map .str))), some (.v (.int m)), none, none, none, none, none, none] = K (SL d ws m) := by
  have gz : ∀ i, i < ws.length → ∃ z, ws.getD i "" = z ∧ (1 ≤ z.length ∧ z.length ≤ 100) ∧ atI (ws.map D.str) (i : Int) = some (.str z) := fun i hi => by
    obtain ⟨z, a, b, c⟩ := ws_get hi
    exact ⟨z, by rw [List.getD_eq_getElem?_getD, a]; rfl, hz z b, c⟩
  have l0 : ∀ a3 : Option O, lcGo (put 4) (mB (m2 fIn (m2 fIx (m2 fIx (mVar 1) (mVar 4)) (mC (.int 0))) (mC (.str "0123456789")))) l_x_law_spoiled_0 [some (.v d), some (.v (.lst (ws.map .str))), some (.v (.int m)), a3, none, none, none, none, none] (rng 0 ws.length) = .ok (natsD (numP ws)) := fun a3 => by
    have := lcGo_filter (tg := put 4) (tst := mB (m2 fIn (m2 fIx (m2 fIx (mVar 1) (mVar 4)) (mC (.int 0))) (mC (.str "0123456789")))) (el := l_x_law_spoiled_0) (L := [some (.v d), some (.v (.lst (ws.map .str))), some (.v (.int m)), a3, none, none, none, none, none]) (f := fun i : Nat => .int (0 + (i : Int))) (g := fun i : Nat => .int (i : Int)) (p := fun i => dig (ws.getD i "")) (xs := List.range ws.length) fun i mi => by
      obtain ⟨z, e1, e2, e3⟩ := gz i (List.mem_range.mp mi)
      obtain ⟨q1, q2, q3⟩ := dig_in e2.1 e2.2
      refine ⟨[some (.v d), some (.v (.lst (ws.map .str))), some (.v (.int m)), a3, some (.v (.int (i : Int))), none, none, none, none], by simp, ?_, fun _ => by simp [l_x_law_spoiled_0]⟩
      rw [e1]
      generalize ws.map D.str = W at e3
      simp [e3, q1, q2]
    exact this
  have l1 : ∀ a4 : List Nat, lcGo (put 4) (mB (m2 fNin (m2 fIx (m2 fIx (mVar 1) (mVar 4)) (mC (.int 0))) (mC (.str "0123456789")))) l_x_law_spoiled_1 [some (.v d), some (.v (.lst (ws.map .str))), some (.v (.int m)), some (.v (.lst (natsD a4))), none, none, none, none, none] (rng 1 (ws.length - 1)) = .ok (natsD (namP ws)) := fun a4 => by
    have := lcGo_filter (tg := put 4) (tst := mB (m2 fNin (m2 fIx (m2 fIx (mVar 1) (mVar 4)) (mC (.int 0))) (mC (.str "0123456789")))) (el := l_x_law_spoiled_1) (L := [some (.v d), some (.v (.lst (ws.map .str))), some (.v (.int m)), some (.v (.lst (natsD a4))), none, none, none, none, none]) (f := fun i : Nat => .int (1 + (i : Int))) (g := fun i : Nat => .int ((i + 1 : Nat) : Int)) (p := fun i => !dig (ws.getD (i + 1) "")) (xs := List.range (ws.length - 1)) fun i mi => by
      have hi := List.mem_range.mp mi
      obtain ⟨z, e1, e2, e3⟩ := gz (i + 1) (by omega)
      obtain ⟨q1, q2, q3⟩ := dig_in e2.1 e2.2
      have e : 1 + (i : Int) = ((i + 1 : Nat) : Int) := by omega
      refine ⟨[some (.v d), some (.v (.lst (ws.map .str))), some (.v (.int m)), some (.v (.lst (natsD a4))), some (.v (.int ((i + 1 : Nat) : Int))), none, none, none, none], by rw [e]; rfl, ?_, fun _ => by simp [l_x_law_spoiled_1]⟩
      rw [e1]
      generalize ws.map D.str = W at e3
      generalize ((i + 1 : Nat) : Int) = j at e3
      simp [e3, q1, q3]
    have e : namP ws = ((List.range (ws.length - 1)).filter fun i => !dig (ws.getD (i + 1) "")).map (· + 1) := by unfold namP; rw [List.filter_map]; rfl
    unfold natsD at this ⊢
    rw [e, List.map_map]
    exact this
  have r0 : rng1 (.int (ws.length : Int)) = some (rng 0 ws.length) := by rw [rng1_ok ⟨by omega, by omega⟩]; rfl
  have r1 : rng2 (.int 1) (.int (ws.length : Int)) = some (rng 1 (ws.length - 1)) := by rw [rng2_ok ⟨by omega, by omega⟩ ⟨by omega, by omega⟩, show ((ws.length : Int) - 1).toNat = ws.length - 1 by omega]
  have d9 : fDiv (.int m) (.int 9) = some (.int (m / 9)) := fDiv_ii (by omega)
  have n0 := l0 none
  have n1 := l1 (numP ws)
  have wl : (rng 0 ws.length).length ≤ 16777216 := by simp; omega
  have wl1 : (rng 1 (ws.length - 1)).length ≤ 16777216 := by simp; omega
  unfold SL
  generalize rng 0 ws.length = g0 at *
  generalize rng 1 (ws.length - 1) = g1 at *
  generalize natsD (numP ws) = A at *
  generalize natsD (namP ws) = B at *
  obtain ⟨n, hn⟩ : ∃ n : Nat, ws.length = n := ⟨_, rfl⟩
  have nl : (ws.map D.str).length = n := by simp [hn]
  generalize ws.map D.str = W at *
  rw [hn] at r0 r1
  simp [so_0, so_1, so_2, so_3, nl, r0, r1, n0, n1, wl, wl1, d9, show n ≤ 16777216 by omega]
theorem split_two : ∀ {ws : List Str} {n : Nat}, 1 ≤ n → n < ws.length → ∃ A a b B, ws = A ++ a :: b :: B ∧ A.length + 1 = n
  | a :: b :: B, 1, _, _ => ⟨[], a, b, B, rfl, rfl⟩
  | a :: ws, n + 2, _, h => by
    obtain ⟨A, y, b, B, e, l⟩ := split_two (ws := ws) (n := n + 1) (by omega) (by simp at h; omega)
    exact ⟨a :: A, y, b, B, by rw [e]; rfl, by simp at l ⊢; omega⟩
def seps : List Str := ["\n", ",", ".", "/", " \n", "- "]
theorem wd_s {z : Str} (h : Wd z) : SaneW z := ⟨h.1, h.2.1, by have := h.2.2; omega⟩
theorem app_ne {a b : Str} (h : b ≠ "") : a ++ b ≠ "" := fun e => h (by
  have : (a ++ b).cps.toList = [] := by rw [e]; decide +kernel
  rw [app_list] at this
  exact str_l ((List.append_eq_nil_iff.mp this).2.trans (by decide +kernel)))
theorem sep_any {A B : List Str} {a b : Str} (s : Sane (A ++ a :: b :: B)) (ha : Wd a) (hb : Wd b) {z : Str} (mz : z ∈ seps) : ∃ ws, Txt.join " " (A ++ [a]) ++ z ++ Txt.join " " (b :: B) = Txt.join " " ws ∧ Sane ws ∧ Bad ws := by
  have hi := s.hi
  have hA : ∀ y ∈ A, SaneW y := fun y m => s.ok y (by simp [m])
  have hB : ∀ y ∈ B, SaneW y := fun y m => s.ok y (by simp [m])
  have one : ∀ (t : Str) (c : Nat), t.cps.toList = [c] → c ≠ 32 → ¬ okC c → ∃ ws, Txt.join " " (A ++ [a]) ++ t ++ Txt.join " " (b :: B) = Txt.join " " ws ∧ Sane ws ∧ Bad ws := fun t c e n o => by
    have lt : t.length = 1 := by have : t.length = t.cps.toList.length := rfl; rw [this, e]; rfl
    refine ⟨A ++ (a ++ t ++ b) :: B, glue, ⟨by simp at hi ⊢; omega, fun y m => ?_⟩, bad_sign (z := a ++ t ++ b) (c := c) (by simp) (by rw [app_list, app_list, e]; simp) o⟩
    rcases List.mem_append.mp m with m | m
    · exact hA y m
    rcases List.mem_cons.mp m with rfl | m
    · refine ⟨app_ne hb.1, ?_, ?_⟩
      · rw [app_list, app_list, e]
        intro q
        simp only [List.mem_append, List.mem_singleton] at q
        rcases q with (q | q) | q
        · exact ha.2.1 q
        · exact n q.symm
        · exact hb.2.1 q
      · have := ha.2.2; have := hb.2.2
        rw [len_app, len_app]; omega
    · exact hB y m
  simp only [seps, List.mem_cons, List.not_mem_nil, or_false] at mz
  rcases mz with rfl | rfl | rfl | rfl | rfl | rfl
  · exact one _ 10 (by decide +kernel) (by decide) (by unfold okC; omega)
  · exact one _ 44 (by decide +kernel) (by decide) (by unfold okC; omega)
  · exact one _ 46 (by decide +kernel) (by decide) (by unfold okC; omega)
  · exact one _ 47 (by decide +kernel) (by decide) (by unfold okC; omega)
  · have e : (" \n" : Str) = " " ++ "\n" := by decide +kernel
    rw [e]
    have en : ("\n" : Str).cps.toList = [10] := by decide +kernel
    refine ⟨(A ++ [a]) ++ ("\n" ++ b) :: B, glueL (by simp), ⟨by simp at hi ⊢; omega, fun y m => ?_⟩, bad_sign (z := "\n" ++ b) (c := 10) (by simp) (by rw [app_list, en]; simp) (by unfold okC; omega)⟩
    rcases List.mem_append.mp m with m | m
    · rcases List.mem_append.mp m with m | m
      · exact hA y m
      · rw [List.mem_singleton.mp m]; exact wd_s ha
    rcases List.mem_cons.mp m with rfl | m
    · refine ⟨app_ne hb.1, ?_, ?_⟩
      · rw [app_list, en]
        intro q
        simp only [List.mem_append, List.mem_singleton] at q
        rcases q with q | q
        · cases q
        · exact hb.2.1 q
      · have := hb.2.2
        have : ("\n" : Str).length = 1 := by decide +kernel
        rw [len_app]; omega
    · exact hB y m
  · have e : ("- " : Str) = "-" ++ " " := by decide +kernel
    rw [e]
    have en : ("-" : Str).cps.toList = [45] := by decide +kernel
    refine ⟨A ++ (a ++ "-") :: b :: B, glueR, ⟨by simp at hi ⊢; omega, fun y m => ?_⟩, bad_sign (z := a ++ "-") (c := 45) (by simp) (by rw [app_list, en]; simp) (by unfold okC; omega)⟩
    rcases List.mem_append.mp m with m | m
    · exact hA y m
    rcases List.mem_cons.mp m with rfl | m
    · refine ⟨app_ne (by decide +kernel), ?_, ?_⟩
      · rw [app_list, en]
        intro q
        simp only [List.mem_append, List.mem_singleton] at q
        rcases q with q | q
        · exact ha.2.1 q
        · cases q
      · have := ha.2.2
        have : ("-" : Str).length = 1 := by decide +kernel
        rw [len_app]; omega
    rcases List.mem_cons.mp m with rfl | m
    · exact wd_s hb
    · exact hB y m
theorem sep_ok {x : Deed} (k : x.Ok) {q : Int} (hq : 0 ≤ q) {a b w : D} : Sp (out ((sSeq so_11 so_12) [some (.v x.d), some (.v (.lst (x.ws.map .str))), some (.v (.int q)), some (.v a), none, some (.v b), some (.v w), none, none])) := by
  have l4 := (Deed.ws_d k).1
  have l30 := Deed.ws_len k
  have s := Deed.sane k
  obtain ⟨p, hp⟩ : ∃ p : Nat, 1 + q % ((x.ws.length : Int) - 1) = p := ⟨(1 + q % ((x.ws.length : Int) - 1)).toNat, by have := Int.emod_nonneg q (b := (x.ws.length : Int) - 1) (by omega); omega⟩
  have hp2 := Int.emod_nonneg q (b := (x.ws.length : Int) - 1) (by omega)
  have hp3 := Int.emod_lt_of_pos q (b := (x.ws.length : Int) - 1) (by omega)
  obtain ⟨A, y, z, B, e, l⟩ := split_two (ws := x.ws) (n := p) (by omega) (by omega)
  have wy := Deed.wd k y (by rw [e]; simp)
  have wz := Deed.wd k z (by rw [e]; simp)
  have ct : cut (x.ws.map D.str) none (some (p : Int)) = (A ++ [y]).map D.str := by
    rw [cut_pre_l (by simp; omega), ← List.map_take, e, ← l]
    congr 1
    rw [show A ++ y :: z :: B = (A ++ [y]) ++ z :: B by simp, List.take_left' (by simp)]
  have cd : cut (x.ws.map D.str) (some (p : Int)) none = (z :: B).map D.str := by
    rw [cut_suf_l (by simp; omega), ← List.map_drop, e, ← l]
    congr 1
    rw [show A ++ y :: z :: B = (A ++ [y]) ++ z :: B by simp, List.drop_left' (by simp)]
  have s1 : Sane (A ++ [y]) := s.sub (fun v m => by rw [e]; simp at m ⊢; rcases m with m | m <;> simp [m]) (by rw [e]; simp)
  have s2 : Sane (z :: B) := s.sub (fun v m => by rw [e]; simp at m ⊢; rcases m with m | m <;> simp [m]) (by rw [e]; simp; omega)
  have j1 := join_any s1
  have j2 := join_any s2
  have b1 := join_l s1
  have b2 := join_l s2
  obtain ⟨t, mt, et⟩ := pick_of (f := D.str) (xs := seps) (i := q / 50 % 6) (by omega) (by simp [seps]; omega)
  have lt : t.length ≤ 2 := (show ∀ t ∈ seps, t.length ≤ 2 by decide +kernel) t mt
  obtain ⟨ws, ew, sn, bd⟩ := sep_any (by rw [← e]; exact s) wy wz mt
  refine ⟨ws, ?_, sn, bd⟩
  rw [← ew]
  have d50 : fDiv (.int q) (.int 50) = some (.int (q / 50)) := fDiv_ii (by omega)
  have fm : fMod (.int q) (.int ((x.ws.length : Int) - 1)) = some (.int (q % ((x.ws.length : Int) - 1))) := fMod_ii (by omega)
  have wl : (x.ws.map D.str).length = x.ws.length := by simp
  have le := len_app (Txt.join " " (A ++ [y])) t
  simp only [seps, List.map_cons, List.map_nil] at et
  generalize Txt.join " " (A ++ [y]) = t1 at *
  generalize Txt.join " " (z :: B) = t2 at *
  generalize (A ++ [y]).map D.str = W1 at *
  generalize (z :: B).map D.str = W2 at *
  generalize x.ws.map D.str = W at *
  generalize x.d = xd
  generalize hn : x.ws.length = n at *
  simp [so_11, so_12, wl, fm, hp, ct, cd, j1, j2, d50, et, show n ≤ 16777216 by omega, show t1.length + t.length ≤ 16777216 by omega, show (t1 ++ t).length + t2.length ≤ 16777216 by omega]
def badN : List Str := ["-1", "+1", "1.0", "1000000000000", "x", "1e3", "00", "1111111111111111111111111111111111111111", "one"]
theorem badN_ok : ∀ z ∈ badN, okNum z = false ∧ SaneW z := by unfold SaneW; decide +kernel
def badA : List Str := ["Ann", "abcdefghi", "an9", "a.b", "7", "-", "annA", "0"]
theorem badA_ok : ∀ z ∈ badA, isName z = false ∧ SaneW z := by unfold SaneW; decide +kernel
def badV : List Str := ["Buy", "sell", "buys", "x", "lends", "7", "BACK"]
theorem badV_ok : ∀ z ∈ badV, z ∉ words7 ∧ SaneW z := by unfold SaneW; decide +kernel
theorem zero_bad {z : Str} (h : Wd z) : okNum ("0" ++ z) = false ∧ SaneW ("0" ++ z) := by
  have e0 : ("0" : Str).cps.toList = [48] := by decide +kernel
  have l : ("0" ++ z).length = 1 + z.length := by rw [len_app]; rfl
  have h1 : 1 ≤ z.length := by
    have := h.1
    by_cases c : z.length = 0
    · exact absurd (str_l (x := z) (y := "") (by
        have : z.cps.toList.length = 0 := c
        rw [List.length_eq_zero_iff.mp this]; decide +kernel)) this
    · omega
  refine ⟨?_, app_ne h.1, ?_, ?_⟩
  · unfold okNum
    rw [decide_eq_true (show 1 < ("0" ++ z).length by omega), app_list, e0]
    simp
  · rw [app_list, e0]
    intro q
    simp only [List.mem_append, List.mem_singleton] at q
    rcases q with q | q
    · cases q
    · exact h.2.1 q
  · have := h.2.2; omega
theorem nats_pick {is : List Nat} {i : Int} (h : is ≠ []) : ∃ p ∈ is, ∃ j : Int, fMod (.int i) (.int (is.length : Int)) = some (.int j) ∧ atI (natsD is) j = some (.int (p : Int)) := by
  have hl : 0 < is.length := Nat.pos_of_ne_zero fun e => h (List.length_eq_zero_iff.mp e)
  have n0 := Int.emod_nonneg i (b := (is.length : Int)) (by omega)
  have n1 := Int.emod_lt_of_pos i (b := (is.length : Int)) (by omega)
  obtain ⟨p, mp, e⟩ := pick_of (f := fun i : Nat => D.int (i : Int)) (xs := is) (i := i % (is.length : Int)) n0 n1
  exact ⟨p, mp, _, fMod_ii (by omega), e⟩
def more2 : List Str := ["zz", "5"]
theorem more2_ok : ∀ z ∈ more2, SaneW z := by unfold SaneW; decide +kernel
theorem badA_s0 : SaneW "0" := by unfold SaneW; decide +kernel
theorem cut_m1 {xs : List D} {n : Nat} (h : 1 ≤ xs.length) (e : n = xs.length - 1) : cut xs none (some (-1)) = xs.take n := by
  unfold cut
  rw [HT.sIx_none, List.drop_zero, Nat.sub_zero, e]
  have q : HT.sIx xs.length xs.length (some (-1)) = (if (-1 : Int) < 0 then ((-1 : Int) + (xs.length : Int)).toNat else min (-1 : Int).toNat xs.length) := rfl
  rw [q, if_pos (by decide)]
  congr 1
  omega
theorem lenB_off {w : Str} {n : Nat} (h : lenB w n = true) (c : ¬ w = "spend") : lenB w (n + 1) = false ∧ lenB w (n - 1) = false := by
  by_cases c1 : w = "fix"
  · subst c1
    rw [lb_fix] at h
    rw [lb_fix, lb_fix]
    have := of_decide_eq_true h
    exact ⟨decide_eq_false (by omega), decide_eq_false (by omega)⟩
  by_cases c2 : w = "buy"
  · subst c2
    rw [lb_buy] at h
    rw [lb_buy, lb_buy]
    have := of_decide_eq_true h
    exact ⟨decide_eq_false (by omega), decide_eq_false (by omega)⟩
  by_cases c4 : w = "back"
  · subst c4
    rw [lb_back] at h
    rw [lb_back, lb_back]
    have := of_decide_eq_true h
    exact ⟨decide_eq_false (by omega), decide_eq_false (by omega)⟩
  by_cases c5 : w = "lend"
  · subst c5
    rw [lb_lend] at h
    rw [lb_lend, lb_lend]
    have := of_decide_eq_true h
    exact ⟨decide_eq_false (by omega), decide_eq_false (by omega)⟩
  have el : ∀ n : Nat, lenB w n = decide (n = 6) := fun n => by unfold lenB; rw [if_neg c1, if_neg c2, if_neg c, if_neg c4, if_neg c5]
  rw [el] at h
  rw [el, el]
  have := of_decide_eq_true h
  exact ⟨decide_eq_false (by omega), decide_eq_false (by omega)⟩
theorem len5 {w : Str} {n : Nat} (h : lenB w n = true) (c : w ∈ (["spend", "give", "change", "lend"] : List Str)) : (w = "spend" → 5 ≤ n) ∧ (w ≠ "spend" → 6 ≤ n) ∧ (w = "lend" → 7 ≤ n) := by
  simp only [List.mem_cons, List.not_mem_nil, or_false] at c
  rcases c with rfl | rfl | rfl | rfl
  · rw [lb_spend] at h
    exact ⟨fun _ => (of_decide_eq_true h).1, fun g => absurd rfl g, fun g => absurd g (by decide +kernel)⟩
  · rw [lb_give] at h
    have := of_decide_eq_true h
    exact ⟨fun g => absurd g (by decide +kernel), fun _ => by omega, fun g => absurd g (by decide +kernel)⟩
  · rw [lb_chg] at h
    have := of_decide_eq_true h
    exact ⟨fun g => absurd g (by decide +kernel), fun _ => by omega, fun g => absurd g (by decide +kernel)⟩
  · rw [lb_lend] at h
    have := of_decide_eq_true h
    exact ⟨fun _ => by omega, fun _ => by omega, fun _ => by omega⟩
theorem spend_f {x : Deed} (k : x.Ok) (c : x.w = "spend") : ∃ f : List Str, x.ws.length = 5 + f.length ∧ atI (D.str x.w :: x.ps) 5 = some (.tup (f.map .str)) := by
  cases x with
  | spend r d p n f => exact ⟨f, by simp [Deed.ws]; omega, at_lit (n := 5) rfl⟩
  | buy => exact absurd (show ("buy" : Str) = "spend" from c) (by decide +kernel)
  | give => exact absurd (show ("give" : Str) = "spend" from c) (by decide +kernel)
  | chg => exact absurd (show ("change" : Str) = "spend" from c) (by decide +kernel)
  | lend => exact absurd (show ("lend" : Str) = "spend" from c) (by decide +kernel)
  | back => exact absurd (show ("back" : Str) = "spend" from c) (by decide +kernel)
  | fix => exact absurd (show ("fix" : Str) = "spend" from c) (by decide +kernel)
open Classical in
theorem tup_ne {f : List Str} (h : f ≠ []) : fEq (.tup (f.map .str)) (.tup []) = some (.bl false) := by
  have a : Pn 1 (.tup (f.map .str)) := .tup fun x m => by obtain ⟨z, _, rfl⟩ := List.mem_map.mp m; exact .str
  have b : Pn 1 (.tup []) := .tup fun x m => by cases m
  rw [a.eq b (by omega), decide_eq_false]
  intro e
  injection e with e
  exact h (List.map_eq_nil_iff.mp e)
open Classical in
theorem tup_e0 : fEq (.tup []) (.tup []) = some (.bl true) := by
  have b : Pn 1 (.tup []) := .tup fun x m => by cases m
  rw [b.eq b (by omega), decide_eq_true rfl]
theorem spoiled_ok {x : Deed} (k : x.Ok) {m : Int} (hm : 0 ≤ m ∧ m < 2000000000) : Sp (e_x_law_spoiled.fn [x.d, .lst (x.ws.map .str), .int m]) := by
  have s := Deed.sane k
  have l4 := (Deed.ws_d k).1
  have l30 := Deed.ws_len k
  have w0 := (Deed.ws_d k).2.2
  have lb := len_ok k
  have wdk := Deed.wd k
  have hz : ∀ z ∈ x.ws, 1 ≤ z.length ∧ z.length ≤ 100 := fun z mz => by
    obtain ⟨a, b, c⟩ := wdk z mz
    refine ⟨?_, by omega⟩
    by_cases c : z.length = 0
    · exact absurd (str_l (x := z) (y := "") (by
        have : z.cps.toList.length = 0 := c
        rw [List.length_eq_zero_iff.mp this]; decide +kernel)) a
    · omega
  simp only [e_x_law_spoiled, runD, so_eq, sl0]
  show Sp (out ((sSeq so_0 (sSeq so_1 (sSeq so_2 (sSeq so_3 (sSeq so_4 (sSeq so_5 (sSeq so_6 (sSeq so_7 (sSeq so_8 (sSeq so_9 (sSeq so_10 (sSeq so_11 so_12)))))))))))) [some (.v x.d), some (.v (.lst (x.ws.map .str))), some (.v (.int m)), none, none, none, none, none, none]))
  rw [spoil_pre l4 (by omega) hz]
  unfold SL
  have q0 : 0 ≤ m / 9 := by omega
  generalize hq : m / 9 = q at q0
  have sep := fun a b w : D => sep_ok k q0 (a := a) (b := b) (w := w)
  have nd := fun b : Bool => no_deed_ok k b
  obtain ⟨np, mnp⟩ := List.exists_mem_of_ne_nil _ (numP_some k)
  have nl : (natsD (numP x.ws)).length = (numP x.ws).length := by unfold natsD; simp
  have al : (natsD (namP x.ws)).length = (namP x.ws).length := by unfold natsD; simp
  have wl : (x.ws.map D.str).length = x.ws.length := by simp
  have nl2 : (numP x.ws).length ≤ 16777216 := by
    have : (numP x.ws).length ≤ (List.range x.ws.length).length := List.length_filter_le _ _
    simp at this; omega
  have al2 : (namP x.ws).length ≤ 16777216 := by
    have : (namP x.ws).length ≤ ((List.range (x.ws.length - 1)).map (· + 1)).length := List.length_filter_le _ _
    simp at this; omega
  have hw : m % 9 = 0 ∨ m % 9 = 1 ∨ m % 9 = 2 ∨ m % 9 = 3 ∨ m % 9 = 4 ∨ m % 9 = 5 ∨ m % 9 = 6 ∨ m % 9 = 7 ∨ m % 9 = 8 := by omega
  rcases hw with h | h | h | h | h | h | h | h | h <;> rw [h]
  · -- a number that is none
    obtain ⟨p0, mp0, ep0⟩ := pick_of (f := fun i : Nat => D.int (i : Int)) (xs := numP x.ws) (i := 0) (by omega) (by have := List.length_pos_of_mem mnp; omega)
    change atI (natsD (numP x.ws)) 0 = _ at ep0
    obtain ⟨_, lp0, _⟩ := numP_mem k mp0
    obtain ⟨z0, _, mz0, ez0⟩ := ws_get lp0
    obtain ⟨zb, zs⟩ := zero_bad (wdk z0 mz0)
    have zl : ("0" : Str).length + z0.length ≤ 16777216 := by have := (wdk z0 mz0).2.2; have : ("0" : Str).length = 1 := (by decide +kernel); omega
    obtain ⟨c, mc, ec⟩ := pick_of (f := D.str) (xs := ("0" ++ z0) :: badN) (i := q % 10) (by omega) (by simp [badN]; omega)
    have cb : okNum c = false ∧ SaneW c := by
      rcases List.mem_cons.mp mc with rfl | mc
      · exact ⟨zb, zs⟩
      · exact badN_ok c mc
    obtain ⟨p, mp, j, e1, e2⟩ := nats_pick (is := numP x.ws) (i := q / 10) (numP_some k)
    obtain ⟨p1, lp, na⟩ := numP_mem k mp
    obtain ⟨ws, r, t⟩ := put_sp s lp cb.2 (bad_num k p1 lp na cb.1)
    refine ⟨ws, ?_, t⟩
    have d10 : fDiv (.int q) (.int 10) = some (.int (q / 10)) := fDiv_ii (by omega)
    have fm : fMulS (.str "1") (.int 40) = some (.str "1111111111111111111111111111111111111111") := by
      rw [fMulS_si, if_pos (by decide +kernel), show Txt.mul "1" 40 = "1111111111111111111111111111111111111111" by decide +kernel]
    simp only [badN, List.map_cons, List.map_nil] at ec
    generalize natsD (numP x.ws) = A at *
    generalize natsD (namP x.ws) = B at *
    generalize x.ws.map D.str = W at *
    simp [so_4, so_5, nl, nl2, ep0, ez0, zl, ec, e1, e2, d10, fm, -fMulS_si, r]
  · -- a name that is none
    obtain ⟨c, mc, ec⟩ := pick_of (f := D.str) (xs := badA) (i := q % 8) (by omega) (by simp [badA]; omega)
    have cb := badA_ok c mc
    obtain ⟨p, mp, j, e1, e2⟩ := nats_pick (is := namP x.ws) (i := q / 8) (namP_some k)
    obtain ⟨p1, lp, na⟩ := namP_mem k mp
    obtain ⟨ws, r, t⟩ := put_sp s lp cb.2 (bad_name k p1 lp na cb.1)
    refine ⟨ws, ?_, t⟩
    have d8 : fDiv (.int q) (.int 8) = some (.int (q / 8)) := fDiv_ii (by omega)
    simp only [badA, List.map_cons, List.map_nil] at ec
    generalize natsD (numP x.ws) = A at *
    generalize natsD (namP x.ws) = B at *
    generalize x.ws.map D.str = W at *
    simp [so_4, so_5, so_6, al, al2, ec, e1, e2, d8, r]
  · -- a word that is none
    obtain ⟨c, mc, ec⟩ := pick_of (f := D.str) (xs := badV) (i := q % 7) (by omega) (by simp [badV]; omega)
    have cb := badV_ok c mc
    obtain ⟨ws, r, t⟩ := put_sp s (p := 0) (by omega) cb.2 (bad_verb (putL_at (by omega)) cb.1)
    refine ⟨ws, ?_, t⟩
    simp only [badV, List.map_cons, List.map_nil] at ec
    generalize natsD (numP x.ws) = A at *
    generalize natsD (namP x.ws) = B at *
    generalize x.ws.map D.str = W at *
    simp at r
    simp [so_4, so_5, so_6, so_7, ec, r]
  · -- the last word left out
    have cm : cut (x.ws.map D.str) none (some (-1)) = (x.ws.take (x.ws.length - 1)).map D.str := by
      rw [List.map_take]
      exact cut_m1 (by simp; omega) (by simp)
    have fng : fNeg (.int 1) = some (.int (-1)) := rfl
    have sn : Sane (x.ws.take (x.ws.length - 1)) := take_sane s
    have jn := join_any sn
    have t0 : (x.ws.take (x.ws.length - 1))[0]? = some x.w := by rw [List.getElem?_take, if_pos (by omega)]; exact w0
    have tl : (x.ws.take (x.ws.length - 1)).length = x.ws.length - 1 := by simp
    by_cases c : x.w = "spend"
    · have q1 : fNe (.str x.w) (.str "spend") = some (.bl false) := by rw [fNe_ss, decide_eq_true c]; rfl
      obtain ⟨f, hf, ef⟩ := spend_f k c
      by_cases cf : f = []
      · subst cf
        have eq : fEq (.tup (([] : List Str).map .str)) (.tup []) = some (.bl true) := tup_e0
        refine ⟨_, ?_, sn, bad_len t0 (by rw [tl, hf, c, lb_spend]; rfl)⟩
        have i5 : atI (D.str x.w :: x.ps) 5 = some (.tup (([] : List Str).map .str)) := ef
        have i0 : atI (D.str x.w :: x.ps) 0 = some (.str x.w) := at_lit (n := 0) rfl
        have e : x.d = .tup (D.str x.w :: x.ps) := rfl
        rw [e]
        generalize (x.ws.take (x.ws.length - 1)).map D.str = T at *
        generalize Txt.join " " (x.ws.take (x.ws.length - 1)) = t at *
        generalize natsD (numP x.ws) = A at *
        generalize natsD (namP x.ws) = B at *
        generalize x.ws.map D.str = W at *
        generalize D.str x.w :: x.ps = X at *
        simp only [List.map_nil] at eq i5
        simp [so_4, so_5, so_6, so_7, so_8, i0, i5, q1, eq, cm, jn, fng, -fNe_ss]
      · have eq : fEq (.tup (f.map .str)) (.tup []) = some (.bl false) := tup_ne cf
        have i5 : atI (D.str x.w :: x.ps) 5 = some (.tup (f.map .str)) := ef
        have i0 : atI (D.str x.w :: x.ps) 0 = some (.str x.w) := at_lit (n := 0) rfl
        have e : x.d = .tup (D.str x.w :: x.ps) := rfl
        obtain ⟨ws, r, t⟩ := sep (.lst (natsD (numP x.ws))) (.lst (natsD (namP x.ws))) (.int 3)
        refine ⟨ws, ?_, t⟩
        rw [e] at r ⊢
        generalize natsD (numP x.ws) = A at *
        generalize natsD (namP x.ws) = B at *
        generalize x.ws.map D.str = W at *
        generalize D.str x.w :: x.ps = X at *
        generalize f.map D.str = Fs at *
        rw [← r]
        simp [so_4, so_5, so_6, so_7, so_8, so_9, so_10, i0, i5, q1, eq, -fNe_ss]
    · have q1 : fNe (.str x.w) (.str "spend") = some (.bl true) := by rw [fNe_ss, decide_eq_false c]; rfl
      refine ⟨_, ?_, sn, bad_len t0 (by rw [tl]; exact (lenB_off lb c).2)⟩
      have i0 : atI (D.str x.w :: x.ps) 0 = some (.str x.w) := at_lit (n := 0) rfl
      have e : x.d = .tup (D.str x.w :: x.ps) := rfl
      rw [e]
      generalize (x.ws.take (x.ws.length - 1)).map D.str = T at *
      generalize Txt.join " " (x.ws.take (x.ws.length - 1)) = t at *
      generalize natsD (numP x.ws) = A at *
      generalize natsD (namP x.ws) = B at *
      generalize x.ws.map D.str = W at *
      generalize D.str x.w :: x.ps = X at *
      simp [so_4, so_5, so_6, so_7, so_8, i0, q1, cm, jn, fng, -fNe_ss]
  · -- a word more
    have i0 : atI (D.str x.w :: x.ps) 0 = some (.str x.w) := at_lit (n := 0) rfl
    have e : x.d = .tup (D.str x.w :: x.ps) := rfl
    by_cases c : x.w = "spend"
    · have q1 : fNe (.str x.w) (.str "spend") = some (.bl false) := by rw [fNe_ss, decide_eq_true c]; rfl
      obtain ⟨ws, r, t⟩ := sep (.lst (natsD (numP x.ws))) (.lst (natsD (namP x.ws))) (.int 4)
      refine ⟨ws, ?_, t⟩
      rw [e] at r ⊢
      generalize natsD (numP x.ws) = A at *
      generalize natsD (namP x.ws) = B at *
      generalize x.ws.map D.str = W at *
      generalize D.str x.w :: x.ps = X at *
      rw [← r]
      simp [so_4, so_5, so_6, so_7, so_8, so_9, so_10, i0, q1, -fNe_ss]
    · have q1 : fNe (.str x.w) (.str "spend") = some (.bl true) := by rw [fNe_ss, decide_eq_false c]; rfl
      obtain ⟨z, mz, ez⟩ := pick_of (f := D.str) (xs := more2) (i := q % 2) (by omega) (by simp [more2]; omega)
      have sn : Sane (x.ws ++ [z]) := app_sane s (by omega) (by simp) (fun y m => by rw [List.mem_singleton.mp m]; exact more2_ok z mz)
      have jn := join_any sn
      refine ⟨_, ?_, sn, bad_len (x := x) (by rw [List.getElem?_append_left (by omega)]; exact w0) (by simp; exact (lenB_off lb c).1)⟩
      rw [List.map_append, List.map_cons, List.map_nil] at jn
      simp only [more2, List.map_cons, List.map_nil] at ez
      rw [e]
      generalize Txt.join " " (x.ws ++ [z]) = t at *
      generalize natsD (numP x.ws) = A at *
      generalize natsD (namP x.ws) = B at *
      generalize hn : x.ws.length = n at *
      generalize x.ws.map D.str = W at *
      generalize D.str x.w :: x.ps = X at *
      simp [so_4, so_5, so_6, so_7, so_8, so_9, i0, q1, ez, wl, jn, show n + 1 ≤ 16777216 by omega, show n ≤ 16777215 by omega, -fNe_ss]
  · -- a nought of points, an end that is none
    have i0 : atI (D.str x.w :: x.ps) 0 = some (.str x.w) := at_lit (n := 0) rfl
    have e : x.d = .tup (D.str x.w :: x.ps) := rfl
    have q3 : fIn (.str x.w) (.tup [.str "spend", .str "give", .str "change", .str "lend"]) = some (.bl (decide (x.w ∈ (["spend", "give", "change", "lend"] : List Str)))) := in_tups (zs := ["spend", "give", "change", "lend"])
    have s0 : SaneW "0" := badA_s0
    by_cases c : x.w ∈ (["spend", "give", "change", "lend"] : List Str)
    · rw [decide_eq_true c] at q3
      have l5 : (x.w = "spend" → 5 ≤ x.ws.length) ∧ (x.w ≠ "spend" → 6 ≤ x.ws.length) ∧ (x.w = "lend" → 7 ≤ x.ws.length) := len5 lb c
      by_cases cl : x.w = "lend" ∧ q % 2 = 0
      · have q1 : fEq (.str x.w) (.str "lend") = some (.bl true) := w_eq cl.1
        obtain ⟨z2, a2, m2, t2⟩ := ws_get (ws := x.ws) (i := 2) (by omega)
        have lp : 6 < x.ws.length := by have := l5.2.2 cl.1; omega
        obtain ⟨ws, r, t⟩ := put_sp s lp (wd_s (wdk z2 m2)) (bad_fact (x := x) (by rw [putL_ne lp (by omega)]; exact w0) fun f => f.ld cl.1 (by rw [putL_at lp, putL_ne lp (by omega), a2]))
        refine ⟨ws, ?_, t⟩
        rw [e]
        generalize natsD (numP x.ws) = A at *
        generalize natsD (namP x.ws) = B at *
        generalize x.ws.map D.str = W at *
        generalize D.str x.w :: x.ps = X at *
        simp at r t2
        simp [so_4, so_5, so_6, so_7, so_8, so_9, so_10, i0, q1, q3, cl.2, t2, r, -fEq_ss]
      · by_cases cs : x.w = "spend"
        · have q1 : fNe (.str x.w) (.str "spend") = some (.bl false) := by rw [fNe_ss, decide_eq_true cs]; rfl
          have q2 : fEq (.str x.w) (.str "lend") = some (.bl false) := w_ne (by rw [cs]; decide +kernel)
          have lp : 4 < x.ws.length := by have := l5.1 cs; omega
          obtain ⟨ws, r, t⟩ := put_sp s lp s0 (bad_fact (x := x) (by rw [putL_ne lp (by omega)]; exact w0) fun f => (f.sp cs).2 (putL_at lp))
          refine ⟨ws, ?_, t⟩
          rw [e]
          generalize natsD (numP x.ws) = A at *
          generalize natsD (namP x.ws) = B at *
          generalize x.ws.map D.str = W at *
          generalize D.str x.w :: x.ps = X at *
          simp at r
          simp [so_4, so_5, so_6, so_7, so_8, so_9, so_10, i0, q1, q2, q3, r, -fEq_ss, -fNe_ss]
        · have q1 : fNe (.str x.w) (.str "spend") = some (.bl true) := by rw [fNe_ss, decide_eq_false cs]; rfl
          have mv : x.w = "give" ∨ x.w = "change" ∨ x.w = "lend" := by
            simp only [List.mem_cons, List.not_mem_nil, or_false] at c
            rcases c with h | h
            · exact absurd h cs
            · exact h
          have lp : 5 < x.ws.length := by have := l5.2.1 cs; omega
          obtain ⟨ws, r, t⟩ := put_sp s lp s0 (bad_fact (x := x) (by rw [putL_ne lp (by omega)]; exact w0) fun f => (f.mv mv).2 (putL_at lp))
          refine ⟨ws, ?_, t⟩
          rw [e]
          generalize natsD (numP x.ws) = A at *
          generalize natsD (namP x.ws) = B at *
          generalize x.ws.map D.str = W at *
          generalize D.str x.w :: x.ps = X at *
          simp at r
          by_cases c2 : x.w = "lend"
          · have q2 : fEq (.str x.w) (.str "lend") = some (.bl true) := w_eq c2
            have n2 : q % 2 = 1 := by
              have : ¬ q % 2 = 0 := fun h => cl ⟨c2, h⟩
              omega
            simp [so_4, so_5, so_6, so_7, so_8, so_9, so_10, i0, q1, q2, q3, n2, r, -fEq_ss, -fNe_ss]
          · have q2 : fEq (.str x.w) (.str "lend") = some (.bl false) := w_ne (decide_eq_false c2)
            simp [so_4, so_5, so_6, so_7, so_8, so_9, so_10, i0, q1, q2, q3, r, -fEq_ss, -fNe_ss]
    · rw [decide_eq_false c] at q3
      obtain ⟨ws, r, t⟩ := sep (.lst (natsD (numP x.ws))) (.lst (natsD (namP x.ws))) (.int 5)
      refine ⟨ws, ?_, t⟩
      rw [e] at r ⊢
      generalize natsD (numP x.ws) = A at *
      generalize natsD (namP x.ws) = B at *
      generalize x.ws.map D.str = W at *
      generalize D.str x.w :: x.ps = X at *
      rw [← r]
      simp [so_4, so_5, so_6, so_7, so_8, so_9, so_10, i0, q3]
  · -- another sign between two words
    obtain ⟨ws, r, t⟩ := sep (.lst (natsD (numP x.ws))) (.lst (natsD (namP x.ws))) (.int 6)
    refine ⟨ws, ?_, t⟩
    generalize natsD (numP x.ws) = A at *
    generalize natsD (namP x.ws) = B at *
    generalize x.ws.map D.str = W at *
    generalize x.d = X at *
    rw [← r]
    simp [so_4, so_5, so_6, so_7, so_8, so_9, so_10]
  · obtain ⟨ws, r, t⟩ := nd false
    refine ⟨ws, ?_, t⟩
    generalize x.ws.map D.str = W at *
    simp [so_4, r]
  · obtain ⟨ws, r, t⟩ := nd true
    refine ⟨ws, ?_, t⟩
    generalize x.ws.map D.str = W at *
    simp [so_4, r]
theorem refused_ok {t : Str} (hb : e_read_deed.fn [.str t] = .exc "BadDeed") : e_x_law_refused.fn [.str t] = .ok (.v (.bl true)) := by
  have l1 : lookM mTab "BadDeed" "PurseError" = some true := by decide +kernel
  have a1 : anyIs mTab "BadDeed" ["BadDeed"] = some true := by decide +kernel
  have a2 : anyIs mTab "BadDeed" ["ValueError"] = some true := by decide +kernel
  have a3 : anyIs mTab "BadDeed" ["BadBook", "BadHouse", "BadText", "NoDeed", "NoRate", "NotOver", "TooFew", "Twice", "WrongDay"] = some false := by decide +kernel
  have e1 : fEq (.lst [.bl true, .bl true, .bl false]) (.lst [.bl true, .bl true, .bl false]) = some (.bl true) := by rfl
  simp only [e_x_law_refused, runD, m_x_law_refused, sl0]
  simp [hb, hGo_as l1, isE_of a1, isE_of a2, isE_of a3, e1]
theorem law_ok : ∀ ns : List Int, ns.length ≤ 63 → e_law.fn [.lst (ns.map .int)] = .ok (.v (.bl true)) := fun ns hl => by
  show runD 6 m_law 1 [.lst (ns.map .int)] = .ok (.v (.bl true))
  have r4 : rng1 (.int 4) = some (cnt 0 4) := rng1_cnt (n := 4) (by omega)
  have inn : ∀ (a : Nat) (x : Deed) (k : x.Ok) {j i : Nat} {y z : Option D}, a ≤ 90 → i + j ≤ 4 → ∃ y' z' : Option D, forGo (put 4) b_law_0 [some (.v (.lst (ns.map .int))), some (.v (.int a)), some (.v x.d), some (.v (.lst (x.ws.map .str))), y.map .v, z.map .v] (cnt i j) = .next [some (.v (.lst (ns.map .int))), some (.v (.int a)), some (.v x.d), some (.v (.lst (x.ws.map .str))), Option.map .v y', Option.map .v z'] := by
    intro a x k j
    induction j with
    | zero => exact fun {i y z} _ _ => ⟨y, z, rfl⟩
    | succ j ih =>
      intro i y z ha hi
      have a1 := at_ok ns (52 + (i : Int)) (by omega)
      generalize atZ ns (52 + (i : Int)) = c at a1
      have m1 := mix_ok c ((a : Int) + i) (by omega)
      have mlo := mix_lo c ((a : Int) + i)
      generalize mixZ c ((a : Int) + i) = m at m1 mlo
      obtain ⟨y', z', e⟩ := ih (i := i + 1) (y := some (.int i)) (z := some (.int m)) ha (by omega)
      refine ⟨y', z', ?_⟩
      obtain ⟨ws, h1, h2, h3⟩ := spoiled_ok k (m := m) (by omega)
      have rf := refused_ok (refuse h2 h3)
      have l4 := (Deed.ws_d k).1
      obtain ⟨n, hn⟩ : ∃ n : Nat, m % 4 = n := ⟨(m % 4).toNat, by omega⟩
      have ct : cut (x.ws.map D.str) none (some (n : Int)) = (x.ws.take n).map D.str := by rw [cut_pre_l (by simp; omega), List.map_take]
      have sn : Sane (x.ws.take n) := take_sane (Deed.sane k)
      have jn := join_any sn
      have rf2 := refused_ok (refuse sn (bad_few (by simp; omega)))
      have st : b_law_0 [some (.v (.lst (ns.map .int))), some (.v (.int a)), some (.v x.d), some (.v (.lst (x.ws.map .str))), some (.v (.int i)), z.map .v] = .next [some (.v (.lst (ns.map .int))), some (.v (.int a)), some (.v x.d), some (.v (.lst (x.ws.map .str))), some (.v (.int i)), some (.v (.int m))] := by
        generalize (x.ws.take n).map D.str = T at *
        generalize Txt.join " " (x.ws.take n) = t1 at *
        generalize Txt.join " " ws = t2 at *
        generalize x.ws.map D.str = W at *
        generalize x.d = X at *
        simp [b_law_0, a1, m1, h1, rf, hn, ct, jn, rf2]
      show forGo _ _ _ (.int (i : Int) :: cnt (i + 1) j) = _
      rw [forGo_step (by simp) st]
      exact e
  have st : ∀ (a : Nat) (x2 x3 x4 x5 : Option D), a ≤ 90 → ∃ y2 y3 y4 y5 : Option D, b_law_1 [some (.v (.lst (ns.map .int))), some (.v (.int a)), x2.map .v, x3.map .v, x4.map .v, x5.map .v] = .next [some (.v (.lst (ns.map .int))), some (.v (.int a)), y2.map .v, y3.map .v, y4.map .v, y5.map .v] := fun a x2 x3 x4 x5 ha => by
    obtain ⟨x, k, e⟩ := deed_ok ns ha
    obtain ⟨o, w1, w2⟩ := words_ok k
    have j := join_ws k
    have r := read_ok k (t := Txt.join " " x.ws) (by rw [split_ws k]; exact filter_ws k) (by have := join_len k; omega)
    have ne := (Deed.sn_d k).pn.ne_self (by omega)
    obtain ⟨y', z', g⟩ := inn a x k (j := 4) (i := 0) (y := x4) (z := x5) ha (by omega)
    refine ⟨some x.d, some (.lst (x.ws.map .str)), y', z', ?_⟩
    generalize Txt.join " " x.ws = t at *
    generalize x.ws.map D.str = W at *
    generalize x.d = X at *
    simp [b_law_1, e, w1, w2, j, r, ne, r4, g]
  obtain ⟨p2, p3, p4, p5, e1⟩ := st 0 none none none none (by omega)
  obtain ⟨q2, q3, q4, q5, e2⟩ := st 13 p2 p3 p4 p5 (by omega)
  obtain ⟨s2, s3, s4, s5, e3⟩ := st 26 q2 q3 q4 q5 (by omega)
  obtain ⟨t2, t3, t4, t5, e4⟩ := st 39 s2 s3 s4 s5 (by omega)
  have f : forGo (put 1) b_law_1 [some (.v (.lst (ns.map .int))), none, none, none, none, none] [.int 0, .int 13, .int 26, .int 39] = .next [some (.v (.lst (ns.map .int))), some (.v (.int 39)), t2.map .v, t3.map .v, t4.map .v, t5.map .v] := by
    refine (forGo_step (L1 := [some (.v (.lst (ns.map .int))), some (.v (.int 0)), none, none, none, none]) (by simp) e1).trans ?_
    refine (forGo_step (L1 := [some (.v (.lst (ns.map .int))), some (.v (.int 13)), p2.map .v, p3.map .v, p4.map .v, p5.map .v]) (by simp) e2).trans ?_
    refine (forGo_step (L1 := [some (.v (.lst (ns.map .int))), some (.v (.int 26)), q2.map .v, q3.map .v, q4.map .v, q5.map .v]) (by simp) e3).trans ?_
    exact (forGo_step (L1 := [some (.v (.lst (ns.map .int))), some (.v (.int 39)), s2.map .v, s3.map .v, s4.map .v, s5.map .v]) (by simp) e4).trans rfl
  simp only [runD, m_law, sl0]
  simp [f]
end K11
end
set_option Elab.async false
set_option linter.all false
set_option maxRecDepth 100000
set_option maxHeartbeats 4000000
namespace K11
open PySem PySem.Spec PyProof.Rows L2 Eng
structure Txt (K : PySem.W.Frag) : Prop where
  d_is_name : DefF K "is_name" s_is_name
  d_is_number : DefF K "is_number" s_is_number
  d_are_names : DefF K "are_names" s_are_names
  d_is_line : DefF K "is_line" s_is_line
  d_are_lines : DefF K "are_lines" s_are_lines
  d_are_firsts : DefF K "are_firsts" s_are_firsts
  d_is_buy : DefF K "is_buy" s_is_buy
  d_is_spend : DefF K "is_spend" s_is_spend
  d_is_moving : DefF K "is_moving" s_is_moving
  d_is_lend : DefF K "is_lend" s_is_lend
  d_is_back : DefF K "is_back" s_is_back
  d_is_fix : DefF K "is_fix" s_is_fix
  d_is_deed : DefF K "is_deed" s_is_deed
  d_checked_deed : DefF K "checked_deed" s_checked_deed
  d_number_of : DefF K "number_of" s_number_of
  d_lines_of : DefF K "lines_of" s_lines_of
  d_deed_of : DefF K "deed_of" s_deed_of
  d_read_deed : DefF K "read_deed" s_read_deed
  d_x_law_at : DefF K "_law_at" s_x_law_at
  d_x_law_mix : DefF K "_law_mix" s_x_law_mix
  d_x_law_names : DefF K "_law_names" s_x_law_names
  d_x_law_number : DefF K "_law_number" s_x_law_number
  d_x_law_some_lines : DefF K "_law_some_lines" s_x_law_some_lines
  d_x_law_deed : DefF K "_law_deed" s_x_law_deed
  d_x_law_words : DefF K "_law_words" s_x_law_words
  d_x_law_put : DefF K "_law_put" s_x_law_put
  d_x_law_no_deed : DefF K "_law_no_deed" s_x_law_no_deed
  d_x_law_spoiled : DefF K "_law_spoiled" s_x_law_spoiled
  d_x_law_refused : DefF K "_law_refused" s_x_law_refused
  d_law : DefF K "law" s_law
  x_BadDeed : ExF K "BadDeed"
  m_0 : MtF K "BadDeed" "ValueError" true
  m_1 : MtF K "BadDeed" "BadDeed" true
  m_2 : MtF K "BadDeed" "BadBook" false
  m_3 : MtF K "BadDeed" "BadHouse" false
  m_4 : MtF K "BadDeed" "BadText" false
  m_5 : MtF K "BadDeed" "NoDeed" false
  m_6 : MtF K "BadDeed" "NoRate" false
  m_7 : MtF K "BadDeed" "NotOver" false
  m_8 : MtF K "BadDeed" "TooFew" false
  m_9 : MtF K "BadDeed" "Twice" false
  m_10 : MtF K "BadDeed" "WrongDay" false
  m_11 : MtF K "BadDeed" "PurseError" true
  c_BadDeed : EcF K "BadDeed"
  z_len : PySem.W.nsIn K mainGlobals "len" = some none
  z_all : PySem.W.nsIn K mainGlobals "all" = some none
  z_isinstance : PySem.W.nsIn K mainGlobals "isinstance" = some none
  z_int : PySem.W.nsIn K mainGlobals "int" = some none
  z_bool : PySem.W.nsIn K mainGlobals "bool" = some none
  z_str : PySem.W.nsIn K mainGlobals "str" = some none
  z_tuple : PySem.W.nsIn K mainGlobals "tuple" = some none
  z_set : PySem.W.nsIn K mainGlobals "set" = some none
  z_range : PySem.W.nsIn K mainGlobals "range" = some none
  z_min : PySem.W.nsIn K mainGlobals "min" = some none
  z_max : PySem.W.nsIn K mainGlobals "max" = some none
  z_enumerate : PySem.W.nsIn K mainGlobals "enumerate" = some none
  z_list : PySem.W.nsIn K mainGlobals "list" = some none
  q_LONGEST_houses : ∃ t, PySem.W.nsIn K mainGlobals "LONGEST_houses" = some (some (.int 8 t))
  q_LETTERS : ∃ t, PySem.W.nsIn K mainGlobals "LETTERS" = some (some (.str "abcdefghijklmnopqrstuvwxyz" t))
  q_MOST_LINES : ∃ t, PySem.W.nsIn K mainGlobals "MOST_LINES" = some (some (.int 8 t))
  q_MOST_FIRST : ∃ t, PySem.W.nsIn K mainGlobals "MOST_FIRST" = some (some (.int 8 t))
  q_LONGEST_deedtext : ∃ t, PySem.W.nsIn K mainGlobals "LONGEST_deedtext" = some (some (.int 12 t))
  q_FIGURES : ∃ t, PySem.W.nsIn K mainGlobals "FIGURES" = some (some (.str "0123456789" t))
section
variable {G : Gd} {h : Heap} (X : G.K.In h) (N : h.Ns mainGlobals G.mg) (T : Txt G.K)
include X N T
theorem gr_is_name : g_is_name.Gr G := ⟨(List.forall_mem_nil _), (List.forall_mem_cons.mpr ⟨PySem.W.mg_none_of X N T.z_len, (List.forall_mem_cons.mpr ⟨PySem.W.mg_none_of X N T.z_all, (List.forall_mem_nil _)⟩)⟩), (List.forall_mem_cons.mpr ⟨(by obtain ⟨t, e⟩ := T.q_LONGEST_houses; exact ⟨_, .int 8, PySem.W.mg_of X N e, ⟨t, rfl⟩, fun _ => .int _⟩), (List.forall_mem_cons.mpr ⟨(by obtain ⟨t, e⟩ := T.q_LETTERS; exact ⟨_, .str "abcdefghijklmnopqrstuvwxyz", PySem.W.mg_of X N e, ⟨t, rfl⟩, fun _ => .str _⟩), (List.forall_mem_nil _)⟩)⟩), (List.forall_mem_nil _), (List.forall_mem_nil _), (List.forall_mem_nil _), (List.forall_mem_nil _), (List.forall_mem_nil _), (List.forall_mem_nil _), (List.forall_mem_nil _), (List.forall_mem_nil _)⟩
theorem fx_is_name : FnX G e_is_name := T.d_is_name.fnx X N sc_is_name rfl (fun _ _ _ _ _ _ us hl => match us, hl with | [_], _ => rfl) rfl (c_is_name (gr_is_name X N T))
theorem gr_is_number : g_is_number.Gr G := ⟨(List.forall_mem_nil _), (List.forall_mem_cons.mpr ⟨PySem.W.mg_none_of X N T.z_isinstance, (List.forall_mem_cons.mpr ⟨PySem.W.mg_none_of X N T.z_int, (List.forall_mem_cons.mpr ⟨PySem.W.mg_none_of X N T.z_bool, (List.forall_mem_nil _)⟩)⟩)⟩), (List.forall_mem_nil _), (List.forall_mem_nil _), (List.forall_mem_nil _), (List.forall_mem_nil _), (List.forall_mem_nil _), (List.forall_mem_nil _), (List.forall_mem_nil _), (List.forall_mem_nil _), (List.forall_mem_nil _)⟩
theorem fx_is_number : FnX G e_is_number := T.d_is_number.fnx X N sc_is_number rfl (fun _ _ _ _ _ _ us hl => match us, hl with | [_, _], _ => rfl) rfl (c_is_number (gr_is_number X N T))
theorem gr_are_names : g_are_names.Gr G := ⟨(List.forall_mem_cons.mpr ⟨fun t => fx_is_name (G := G.wt t) X N T, (List.forall_mem_nil _)⟩), (List.forall_mem_cons.mpr ⟨PySem.W.mg_none_of X N T.z_all, (List.forall_mem_cons.mpr ⟨PySem.W.mg_none_of X N T.z_isinstance, (List.forall_mem_cons.mpr ⟨PySem.W.mg_none_of X N T.z_str, (List.forall_mem_nil _)⟩)⟩)⟩), (List.forall_mem_nil _), (List.forall_mem_nil _), (List.forall_mem_nil _), (List.forall_mem_nil _), (List.forall_mem_nil _), (List.forall_mem_nil _), (List.forall_mem_nil _), (List.forall_mem_nil _), (List.forall_mem_nil _)⟩
theorem fx_are_names : FnX G e_are_names := T.d_are_names.fnx X N sc_are_names rfl (fun _ _ _ _ _ _ us hl => match us, hl with | [_], _ => rfl) rfl (c_are_names (gr_are_names X N T))
theorem gr_is_line : g_is_line.Gr G := ⟨(List.forall_mem_cons.mpr ⟨fun t => fx_are_names (G := G.wt t) X N T, (List.forall_mem_cons.mpr ⟨fun t => fx_is_number (G := G.wt t) X N T, (List.forall_mem_nil _)⟩)⟩), (List.forall_mem_cons.mpr ⟨PySem.W.mg_none_of X N T.z_isinstance, (List.forall_mem_cons.mpr ⟨PySem.W.mg_none_of X N T.z_tuple, (List.forall_mem_cons.mpr ⟨PySem.W.mg_none_of X N T.z_len, (List.forall_mem_nil _)⟩)⟩)⟩), (List.forall_mem_nil _), (List.forall_mem_nil _), (List.forall_mem_nil _), (List.forall_mem_nil _), (List.forall_mem_nil _), (List.forall_mem_nil _), (List.forall_mem_nil _), (List.forall_mem_nil _), (List.forall_mem_nil _)⟩
theorem fx_is_line : FnX G e_is_line := T.d_is_line.fnx X N sc_is_line rfl (fun _ _ _ _ _ _ us hl => match us, hl with | [_], _ => rfl) rfl (c_is_line (gr_is_line X N T))
theorem gr_are_lines : g_are_lines.Gr G := ⟨(List.forall_mem_cons.mpr ⟨fun t => fx_is_line (G := G.wt t) X N T, (List.forall_mem_nil _)⟩), (List.forall_mem_cons.mpr ⟨PySem.W.mg_none_of X N T.z_isinstance, (List.forall_mem_cons.mpr ⟨PySem.W.mg_none_of X N T.z_tuple, (List.forall_mem_cons.mpr ⟨PySem.W.mg_none_of X N T.z_len, (List.forall_mem_cons.mpr ⟨PySem.W.mg_none_of X N T.z_all, (List.forall_mem_nil _)⟩)⟩)⟩)⟩), (List.forall_mem_cons.mpr ⟨(by obtain ⟨t, e⟩ := T.q_MOST_LINES; exact ⟨_, .int 8, PySem.W.mg_of X N e, ⟨t, rfl⟩, fun _ => .int _⟩), (List.forall_mem_nil _)⟩), (List.forall_mem_nil _), (List.forall_mem_nil _), (List.forall_mem_nil _), (List.forall_mem_nil _), (List.forall_mem_nil _), (List.forall_mem_nil _), (List.forall_mem_nil _), (List.forall_mem_nil _)⟩
theorem fx_are_lines : FnX G e_are_lines := T.d_are_lines.fnx X N sc_are_lines rfl (fun _ _ _ _ _ _ us hl => match us, hl with | [_], _ => rfl) rfl (c_are_lines (gr_are_lines X N T))
theorem gr_are_firsts : g_are_firsts.Gr G := ⟨(List.forall_mem_cons.mpr ⟨fun t => fx_are_names (G := G.wt t) X N T, (List.forall_mem_nil _)⟩), (List.forall_mem_cons.mpr ⟨PySem.W.mg_none_of X N T.z_isinstance, (List.forall_mem_cons.mpr ⟨PySem.W.mg_none_of X N T.z_tuple, (List.forall_mem_cons.mpr ⟨PySem.W.mg_none_of X N T.z_len, (List.forall_mem_cons.mpr ⟨PySem.W.mg_none_of X N T.z_set, (List.forall_mem_nil _)⟩)⟩)⟩)⟩), (List.forall_mem_cons.mpr ⟨(by obtain ⟨t, e⟩ := T.q_MOST_FIRST; exact ⟨_, .int 8, PySem.W.mg_of X N e, ⟨t, rfl⟩, fun _ => .int _⟩), (List.forall_mem_nil _)⟩), (List.forall_mem_nil _), (List.forall_mem_nil _), (List.forall_mem_nil _), (List.forall_mem_nil _), (List.forall_mem_nil _), (List.forall_mem_nil _), (List.forall_mem_nil _), (List.forall_mem_nil _)⟩
theorem fx_are_firsts : FnX G e_are_firsts := T.d_are_firsts.fnx X N sc_are_firsts rfl (fun _ _ _ _ _ _ us hl => match us, hl with | [_], _ => rfl) rfl (c_are_firsts (gr_are_firsts X N T))
theorem gr_is_buy : g_is_buy.Gr G := ⟨(List.forall_mem_cons.mpr ⟨fun t => fx_are_names (G := G.wt t) X N T, (List.forall_mem_cons.mpr ⟨fun t => fx_is_number (G := G.wt t) X N T, (List.forall_mem_cons.mpr ⟨fun t => fx_are_lines (G := G.wt t) X N T, (List.forall_mem_nil _)⟩)⟩)⟩), (List.forall_mem_cons.mpr ⟨PySem.W.mg_none_of X N T.z_len, (List.forall_mem_nil _)⟩), (List.forall_mem_nil _), (List.forall_mem_nil _), (List.forall_mem_nil _), (List.forall_mem_nil _), (List.forall_mem_nil _), (List.forall_mem_nil _), (List.forall_mem_nil _), (List.forall_mem_nil _), (List.forall_mem_nil _)⟩
theorem fx_is_buy : FnX G e_is_buy := T.d_is_buy.fnx X N sc_is_buy rfl (fun _ _ _ _ _ _ us hl => match us, hl with | [_], _ => rfl) rfl (c_is_buy (gr_is_buy X N T))
theorem gr_is_spend : g_is_spend.Gr G := ⟨(List.forall_mem_cons.mpr ⟨fun t => fx_are_names (G := G.wt t) X N T, (List.forall_mem_cons.mpr ⟨fun t => fx_is_number (G := G.wt t) X N T, (List.forall_mem_cons.mpr ⟨fun t => fx_are_firsts (G := G.wt t) X N T, (List.forall_mem_nil _)⟩)⟩)⟩), (List.forall_mem_cons.mpr ⟨PySem.W.mg_none_of X N T.z_len, (List.forall_mem_nil _)⟩), (List.forall_mem_nil _), (List.forall_mem_nil _), (List.forall_mem_nil _), (List.forall_mem_nil _), (List.forall_mem_nil _), (List.forall_mem_nil _), (List.forall_mem_nil _), (List.forall_mem_nil _), (List.forall_mem_nil _)⟩
theorem fx_is_spend : FnX G e_is_spend := T.d_is_spend.fnx X N sc_is_spend rfl (fun _ _ _ _ _ _ us hl => match us, hl with | [_], _ => rfl) rfl (c_is_spend (gr_is_spend X N T))
theorem gr_is_moving : g_is_moving.Gr G := ⟨(List.forall_mem_cons.mpr ⟨fun t => fx_are_names (G := G.wt t) X N T, (List.forall_mem_cons.mpr ⟨fun t => fx_is_number (G := G.wt t) X N T, (List.forall_mem_nil _)⟩)⟩), (List.forall_mem_cons.mpr ⟨PySem.W.mg_none_of X N T.z_len, (List.forall_mem_nil _)⟩), (List.forall_mem_nil _), (List.forall_mem_nil _), (List.forall_mem_nil _), (List.forall_mem_nil _), (List.forall_mem_nil _), (List.forall_mem_nil _), (List.forall_mem_nil _), (List.forall_mem_nil _), (List.forall_mem_nil _)⟩
theorem fx_is_moving : FnX G e_is_moving := T.d_is_moving.fnx X N sc_is_moving rfl (fun _ _ _ _ _ _ us hl => match us, hl with | [_, _], _ => rfl) rfl (c_is_moving (gr_is_moving X N T))
theorem gr_is_lend : g_is_lend.Gr G := ⟨(List.forall_mem_cons.mpr ⟨fun t => fx_is_moving (G := G.wt t) X N T, (List.forall_mem_cons.mpr ⟨fun t => fx_is_number (G := G.wt t) X N T, (List.forall_mem_nil _)⟩)⟩), (List.forall_mem_nil _), (List.forall_mem_nil _), (List.forall_mem_nil _), (List.forall_mem_nil _), (List.forall_mem_nil _), (List.forall_mem_nil _), (List.forall_mem_nil _), (List.forall_mem_nil _), (List.forall_mem_nil _), (List.forall_mem_nil _)⟩
theorem fx_is_lend : FnX G e_is_lend := T.d_is_lend.fnx X N sc_is_lend rfl (fun _ _ _ _ _ _ us hl => match us, hl with | [_], _ => rfl) rfl (c_is_lend (gr_is_lend X N T))
theorem gr_is_back : g_is_back.Gr G := ⟨(List.forall_mem_cons.mpr ⟨fun t => fx_are_names (G := G.wt t) X N T, (List.forall_mem_cons.mpr ⟨fun t => fx_is_number (G := G.wt t) X N T, (List.forall_mem_nil _)⟩)⟩), (List.forall_mem_cons.mpr ⟨PySem.W.mg_none_of X N T.z_len, (List.forall_mem_nil _)⟩), (List.forall_mem_nil _), (List.forall_mem_nil _), (List.forall_mem_nil _), (List.forall_mem_nil _), (List.forall_mem_nil _), (List.forall_mem_nil _), (List.forall_mem_nil _), (List.forall_mem_nil _), (List.forall_mem_nil _)⟩
theorem fx_is_back : FnX G e_is_back := T.d_is_back.fnx X N sc_is_back rfl (fun _ _ _ _ _ _ us hl => match us, hl with | [_], _ => rfl) rfl (c_is_back (gr_is_back X N T))
theorem gr_is_fix : g_is_fix.Gr G := ⟨(List.forall_mem_cons.mpr ⟨fun t => fx_are_names (G := G.wt t) X N T, (List.forall_mem_cons.mpr ⟨fun t => fx_are_lines (G := G.wt t) X N T, (List.forall_mem_nil _)⟩)⟩), (List.forall_mem_cons.mpr ⟨PySem.W.mg_none_of X N T.z_len, (List.forall_mem_nil _)⟩), (List.forall_mem_nil _), (List.forall_mem_nil _), (List.forall_mem_nil _), (List.forall_mem_nil _), (List.forall_mem_nil _), (List.forall_mem_nil _), (List.forall_mem_nil _), (List.forall_mem_nil _), (List.forall_mem_nil _)⟩
theorem fx_is_fix : FnX G e_is_fix := T.d_is_fix.fnx X N sc_is_fix rfl (fun _ _ _ _ _ _ us hl => match us, hl with | [_], _ => rfl) rfl (c_is_fix (gr_is_fix X N T))
theorem gr_is_deed : g_is_deed.Gr G := ⟨(List.forall_mem_cons.mpr ⟨fun t => fx_is_buy (G := G.wt t) X N T, (List.forall_mem_cons.mpr ⟨fun t => fx_is_spend (G := G.wt t) X N T, (List.forall_mem_cons.mpr ⟨fun t => fx_is_moving (G := G.wt t) X N T, (List.forall_mem_cons.mpr ⟨fun t => fx_is_lend (G := G.wt t) X N T, (List.forall_mem_cons.mpr ⟨fun t => fx_is_back (G := G.wt t) X N T, (List.forall_mem_cons.mpr ⟨fun t => fx_is_fix (G := G.wt t) X N T, (List.forall_mem_nil _)⟩)⟩)⟩)⟩)⟩)⟩), (List.forall_mem_nil _), (List.forall_mem_nil _), (List.forall_mem_nil _), (List.forall_mem_nil _), (List.forall_mem_nil _), (List.forall_mem_nil _), (List.forall_mem_nil _), (List.forall_mem_nil _), (List.forall_mem_nil _), (List.forall_mem_nil _)⟩
theorem fx_is_deed : FnX G e_is_deed := T.d_is_deed.fnx X N sc_is_deed rfl (fun _ _ _ _ _ _ us hl => match us, hl with | [_], _ => rfl) rfl (c_is_deed (gr_is_deed X N T))
theorem gr_checked_deed : g_checked_deed.Gr G := ⟨(List.forall_mem_cons.mpr ⟨fun t => fx_is_deed (G := G.wt t) X N T, (List.forall_mem_nil _)⟩), (List.forall_mem_nil _), (List.forall_mem_nil _), (List.forall_mem_cons.mpr ⟨T.x_BadDeed.exc X N, (List.forall_mem_nil _)⟩), (List.forall_mem_nil _), (List.forall_mem_nil _), (List.forall_mem_nil _), (List.forall_mem_nil _), (List.forall_mem_nil _), (List.forall_mem_nil _), (List.forall_mem_nil _)⟩
theorem fx_checked_deed : FnX G e_checked_deed := T.d_checked_deed.fnx X N sc_checked_deed rfl (fun _ _ _ _ _ _ us hl => match us, hl with | [_], _ => rfl) rfl (c_checked_deed (gr_checked_deed X N T))
theorem gr_number_of : g_number_of.Gr G := ⟨(List.forall_mem_nil _), (List.forall_mem_cons.mpr ⟨PySem.W.mg_none_of X N T.z_len, (List.forall_mem_cons.mpr ⟨PySem.W.mg_none_of X N T.z_int, (List.forall_mem_nil _)⟩)⟩), (List.forall_mem_cons.mpr ⟨(by obtain ⟨t, e⟩ := T.q_LONGEST_deedtext; exact ⟨_, .int 12, PySem.W.mg_of X N e, ⟨t, rfl⟩, fun _ => .int _⟩), (List.forall_mem_cons.mpr ⟨(by obtain ⟨t, e⟩ := T.q_FIGURES; exact ⟨_, .str "0123456789", PySem.W.mg_of X N e, ⟨t, rfl⟩, fun _ => .str _⟩), (List.forall_mem_nil _)⟩)⟩), (List.forall_mem_cons.mpr ⟨T.x_BadDeed.exc X N, (List.forall_mem_nil _)⟩), (List.forall_mem_nil _), (List.forall_mem_nil _), (List.forall_mem_nil _), (List.forall_mem_nil _), (List.forall_mem_nil _), (List.forall_mem_nil _), (List.forall_mem_nil _)⟩
theorem fx_number_of : FnX G e_number_of := T.d_number_of.fnx X N sc_number_of rfl (fun _ _ _ _ _ _ us hl => match us, hl with | [_], _ => rfl) rfl (c_number_of (gr_number_of X N T))
theorem gr_lines_of : g_lines_of.Gr G := ⟨(List.forall_mem_cons.mpr ⟨fun t => fx_number_of (G := G.wt t) X N T, (List.forall_mem_nil _)⟩), (List.forall_mem_cons.mpr ⟨PySem.W.mg_none_of X N T.z_len, (List.forall_mem_cons.mpr ⟨PySem.W.mg_none_of X N T.z_tuple, (List.forall_mem_cons.mpr ⟨PySem.W.mg_none_of X N T.z_range, (List.forall_mem_nil _)⟩)⟩)⟩), (List.forall_mem_nil _), (List.forall_mem_cons.mpr ⟨T.x_BadDeed.exc X N, (List.forall_mem_nil _)⟩), (List.forall_mem_nil _), (List.forall_mem_nil _), (List.forall_mem_nil _), (List.forall_mem_nil _), (List.forall_mem_nil _), (List.forall_mem_nil _), (List.forall_mem_nil _)⟩
theorem fx_lines_of : FnX G e_lines_of := T.d_lines_of.fnx X N sc_lines_of rfl (fun _ _ _ _ _ _ us hl => match us, hl with | [_], _ => rfl) rfl (c_lines_of (gr_lines_of X N T))
theorem gr_deed_of : g_deed_of.Gr G := ⟨(List.forall_mem_cons.mpr ⟨fun t => fx_lines_of (G := G.wt t) X N T, (List.forall_mem_cons.mpr ⟨fun t => fx_number_of (G := G.wt t) X N T, (List.forall_mem_nil _)⟩)⟩), (List.forall_mem_cons.mpr ⟨PySem.W.mg_none_of X N T.z_tuple, (List.forall_mem_nil _)⟩), (List.forall_mem_nil _), (List.forall_mem_nil _), (List.forall_mem_nil _), (List.forall_mem_nil _), (List.forall_mem_nil _), (List.forall_mem_nil _), (List.forall_mem_nil _), (List.forall_mem_nil _), (List.forall_mem_nil _)⟩
theorem fx_deed_of : FnX G e_deed_of := T.d_deed_of.fnx X N sc_deed_of rfl (fun _ _ _ _ _ _ us hl => match us, hl with | [_], _ => rfl) rfl (c_deed_of (gr_deed_of X N T))
theorem gr_read_deed : g_read_deed.Gr G := ⟨(List.forall_mem_cons.mpr ⟨fun t => fx_deed_of (G := G.wt t) X N T, (List.forall_mem_cons.mpr ⟨fun t => fx_checked_deed (G := G.wt t) X N T, (List.forall_mem_nil _)⟩)⟩), (List.forall_mem_cons.mpr ⟨PySem.W.mg_none_of X N T.z_len, (List.forall_mem_nil _)⟩), (List.forall_mem_nil _), (List.forall_mem_cons.mpr ⟨T.x_BadDeed.exc X N, (List.forall_mem_nil _)⟩), (List.forall_mem_nil _), (List.forall_mem_nil _), (List.forall_mem_nil _), (List.forall_mem_nil _), (List.forall_mem_nil _), (List.forall_mem_nil _), (List.forall_mem_nil _)⟩
theorem fx_read_deed : FnX G e_read_deed := T.d_read_deed.fnx X N sc_read_deed rfl (fun _ _ _ _ _ _ us hl => match us, hl with | [_], _ => rfl) rfl (c_read_deed (gr_read_deed X N T))
theorem gr_x_law_at : g_x_law_at.Gr G := ⟨(List.forall_mem_nil _), (List.forall_mem_cons.mpr ⟨PySem.W.mg_none_of X N T.z_len, (List.forall_mem_nil _)⟩), (List.forall_mem_nil _), (List.forall_mem_nil _), (List.forall_mem_nil _), (List.forall_mem_nil _), (List.forall_mem_nil _), (List.forall_mem_nil _), (List.forall_mem_nil _), (List.forall_mem_nil _), (List.forall_mem_nil _)⟩
theorem fx_x_law_at : FnX G e_x_law_at := T.d_x_law_at.fnx X N sc_x_law_at rfl (fun _ _ _ _ _ _ us hl => match us, hl with | [_, _], _ => rfl) rfl (c_x_law_at (gr_x_law_at X N T))
theorem gr_x_law_mix : g_x_law_mix.Gr G := ⟨(List.forall_mem_nil _), (List.forall_mem_nil _), (List.forall_mem_nil _), (List.forall_mem_nil _), (List.forall_mem_nil _), (List.forall_mem_nil _), (List.forall_mem_nil _), (List.forall_mem_nil _), (List.forall_mem_nil _), (List.forall_mem_nil _), (List.forall_mem_nil _)⟩
theorem fx_x_law_mix : FnX G e_x_law_mix := T.d_x_law_mix.fnx X N sc_x_law_mix rfl (fun _ _ _ _ _ _ us hl => match us, hl with | [_, _], _ => rfl) rfl (c_x_law_mix (gr_x_law_mix X N T))
theorem gr_x_law_names : g_x_law_names.Gr G := ⟨(List.forall_mem_cons.mpr ⟨fun t => fx_x_law_mix (G := G.wt t) X N T, (List.forall_mem_nil _)⟩), (List.forall_mem_cons.mpr ⟨PySem.W.mg_none_of X N T.z_range, (List.forall_mem_nil _)⟩), (List.forall_mem_nil _), (List.forall_mem_nil _), (List.forall_mem_nil _), (List.forall_mem_nil _), (List.forall_mem_nil _), (List.forall_mem_nil _), (List.forall_mem_nil _), (List.forall_mem_nil _), (List.forall_mem_nil _)⟩
theorem fx_x_law_names : FnX G e_x_law_names := T.d_x_law_names.fnx X N sc_x_law_names rfl (fun _ _ _ _ _ _ us hl => match us, hl with | [_, _], _ => rfl) rfl (c_x_law_names (gr_x_law_names X N T))
theorem gr_x_law_number : g_x_law_number.Gr G := ⟨(List.forall_mem_nil _), (List.forall_mem_nil _), (List.forall_mem_nil _), (List.forall_mem_nil _), (List.forall_mem_nil _), (List.forall_mem_nil _), (List.forall_mem_nil _), (List.forall_mem_nil _), (List.forall_mem_nil _), (List.forall_mem_nil _), (List.forall_mem_nil _)⟩
theorem fx_x_law_number : FnX G e_x_law_number := T.d_x_law_number.fnx X N sc_x_law_number rfl (fun _ _ _ _ _ _ us hl => match us, hl with | [_, _], _ => rfl) rfl (c_x_law_number (gr_x_law_number X N T))
theorem gr_x_law_some_lines : g_x_law_some_lines.Gr G := ⟨(List.forall_mem_cons.mpr ⟨fun t => fx_x_law_mix (G := G.wt t) X N T, (List.forall_mem_cons.mpr ⟨fun t => fx_x_law_at (G := G.wt t) X N T, (List.forall_mem_cons.mpr ⟨fun t => fx_x_law_number (G := G.wt t) X N T, (List.forall_mem_nil _)⟩)⟩)⟩), (List.forall_mem_cons.mpr ⟨PySem.W.mg_none_of X N T.z_range, (List.forall_mem_cons.mpr ⟨PySem.W.mg_none_of X N T.z_len, (List.forall_mem_cons.mpr ⟨PySem.W.mg_none_of X N T.z_tuple, (List.forall_mem_nil _)⟩)⟩)⟩), (List.forall_mem_nil _), (List.forall_mem_nil _), (List.forall_mem_nil _), (List.forall_mem_nil _), (List.forall_mem_nil _), (List.forall_mem_nil _), (List.forall_mem_nil _), (List.forall_mem_nil _), (List.forall_mem_nil _)⟩
theorem fx_x_law_some_lines : FnX G e_x_law_some_lines := T.d_x_law_some_lines.fnx X N sc_x_law_some_lines rfl (fun _ _ _ _ _ _ us hl => match us, hl with | [_, _, _], _ => rfl) rfl (c_x_law_some_lines (gr_x_law_some_lines X N T))
theorem gr_x_law_deed : g_x_law_deed.Gr G := ⟨(List.forall_mem_cons.mpr ⟨fun t => fx_x_law_at (G := G.wt t) X N T, (List.forall_mem_cons.mpr ⟨fun t => fx_x_law_mix (G := G.wt t) X N T, (List.forall_mem_cons.mpr ⟨fun t => fx_x_law_names (G := G.wt t) X N T, (List.forall_mem_cons.mpr ⟨fun t => fx_x_law_number (G := G.wt t) X N T, (List.forall_mem_cons.mpr ⟨fun t => fx_x_law_some_lines (G := G.wt t) X N T, (List.forall_mem_nil _)⟩)⟩)⟩)⟩)⟩), (List.forall_mem_cons.mpr ⟨PySem.W.mg_none_of X N T.z_len, (List.forall_mem_cons.mpr ⟨PySem.W.mg_none_of X N T.z_min, (List.forall_mem_cons.mpr ⟨PySem.W.mg_none_of X N T.z_max, (List.forall_mem_cons.mpr ⟨PySem.W.mg_none_of X N T.z_enumerate, (List.forall_mem_cons.mpr ⟨PySem.W.mg_none_of X N T.z_tuple, (List.forall_mem_nil _)⟩)⟩)⟩)⟩)⟩), (List.forall_mem_nil _), (List.forall_mem_nil _), (List.forall_mem_nil _), (List.forall_mem_nil _), (List.forall_mem_nil _), (List.forall_mem_nil _), (List.forall_mem_nil _), (List.forall_mem_nil _), (List.forall_mem_nil _)⟩
theorem fx_x_law_deed : FnX G e_x_law_deed := T.d_x_law_deed.fnx X N sc_x_law_deed rfl (fun _ _ _ _ _ _ us hl => match us, hl with | [_, _], _ => rfl) rfl (c_x_law_deed (gr_x_law_deed X N T))
theorem gr_x_law_words : g_x_law_words.Gr G := ⟨(List.forall_mem_nil _), (List.forall_mem_cons.mpr ⟨PySem.W.mg_none_of X N T.z_isinstance, (List.forall_mem_cons.mpr ⟨PySem.W.mg_none_of X N T.z_tuple, (List.forall_mem_cons.mpr ⟨PySem.W.mg_none_of X N T.z_str, (List.forall_mem_nil _)⟩)⟩)⟩), (List.forall_mem_nil _), (List.forall_mem_nil _), (List.forall_mem_nil _), (List.forall_mem_nil _), (List.forall_mem_nil _), (List.forall_mem_nil _), (List.forall_mem_nil _), (List.forall_mem_nil _), (List.forall_mem_nil _)⟩
theorem fx_x_law_words : FnX G e_x_law_words := T.d_x_law_words.fnx X N sc_x_law_words rfl (fun _ _ _ _ _ _ us hl => match us, hl with | [_], _ => rfl) rfl (c_x_law_words (gr_x_law_words X N T))
theorem gr_x_law_put : g_x_law_put.Gr G := ⟨(List.forall_mem_nil _), (List.forall_mem_nil _), (List.forall_mem_nil _), (List.forall_mem_nil _), (List.forall_mem_nil _), (List.forall_mem_nil _), (List.forall_mem_nil _), (List.forall_mem_nil _), (List.forall_mem_nil _), (List.forall_mem_nil _), (List.forall_mem_nil _)⟩
theorem fx_x_law_put : FnX G e_x_law_put := T.d_x_law_put.fnx X N sc_x_law_put rfl (fun _ _ _ _ _ _ us hl => match us, hl with | [_, _, _], _ => rfl) rfl (c_x_law_put (gr_x_law_put X N T))
theorem gr_x_law_no_deed : g_x_law_no_deed.Gr G := ⟨(List.forall_mem_cons.mpr ⟨fun t => fx_x_law_put (G := G.wt t) X N T, (List.forall_mem_nil _)⟩), (List.forall_mem_cons.mpr ⟨PySem.W.mg_none_of X N T.z_int, (List.forall_mem_cons.mpr ⟨PySem.W.mg_none_of X N T.z_list, (List.forall_mem_nil _)⟩)⟩), (List.forall_mem_nil _), (List.forall_mem_nil _), (List.forall_mem_nil _), (List.forall_mem_nil _), (List.forall_mem_nil _), (List.forall_mem_nil _), (List.forall_mem_nil _), (List.forall_mem_nil _), (List.forall_mem_nil _)⟩
theorem fx_x_law_no_deed : FnX G e_x_law_no_deed := T.d_x_law_no_deed.fnx X N sc_x_law_no_deed rfl (fun _ _ _ _ _ _ us hl => match us, hl with | [_, _, _], _ => rfl) rfl (c_x_law_no_deed (gr_x_law_no_deed X N T))
theorem gr_x_law_spoiled : g_x_law_spoiled.Gr G := ⟨(List.forall_mem_cons.mpr ⟨fun t => fx_x_law_no_deed (G := G.wt t) X N T, (List.forall_mem_cons.mpr ⟨fun t => fx_x_law_put (G := G.wt t) X N T, (List.forall_mem_nil _)⟩)⟩), (List.forall_mem_cons.mpr ⟨PySem.W.mg_none_of X N T.z_range, (List.forall_mem_cons.mpr ⟨PySem.W.mg_none_of X N T.z_len, (List.forall_mem_cons.mpr ⟨PySem.W.mg_none_of X N T.z_int, (List.forall_mem_nil _)⟩)⟩)⟩), (List.forall_mem_nil _), (List.forall_mem_nil _), (List.forall_mem_nil _), (List.forall_mem_nil _), (List.forall_mem_nil _), (List.forall_mem_nil _), (List.forall_mem_nil _), (List.forall_mem_nil _), (List.forall_mem_nil _)⟩
theorem fx_x_law_spoiled : FnX G e_x_law_spoiled := T.d_x_law_spoiled.fnx X N sc_x_law_spoiled rfl (fun _ _ _ _ _ _ us hl => match us, hl with | [_, _, _], _ => rfl) rfl (c_x_law_spoiled (gr_x_law_spoiled X N T))
theorem gr_x_law_refused : g_x_law_refused.Gr G := ⟨(List.forall_mem_cons.mpr ⟨fun t => fx_read_deed (G := G.wt t) X N T, (List.forall_mem_nil _)⟩), (List.forall_mem_cons.mpr ⟨PySem.W.mg_none_of X N T.z_isinstance, (List.forall_mem_nil _)⟩), (List.forall_mem_nil _), (List.forall_mem_nil _), (List.forall_mem_nil _), (List.forall_mem_nil _), (List.forall_mem_cons.mpr ⟨T.m_0.mt X N, (List.forall_mem_cons.mpr ⟨T.m_1.mt X N, (List.forall_mem_cons.mpr ⟨T.m_2.mt X N, (List.forall_mem_cons.mpr ⟨T.m_3.mt X N, (List.forall_mem_cons.mpr ⟨T.m_4.mt X N, (List.forall_mem_cons.mpr ⟨T.m_5.mt X N, (List.forall_mem_cons.mpr ⟨T.m_6.mt X N, (List.forall_mem_cons.mpr ⟨T.m_7.mt X N, (List.forall_mem_cons.mpr ⟨T.m_8.mt X N, (List.forall_mem_cons.mpr ⟨T.m_9.mt X N, (List.forall_mem_cons.mpr ⟨T.m_10.mt X N, (List.forall_mem_cons.mpr ⟨T.m_11.mt X N, (List.forall_mem_nil _)⟩)⟩)⟩)⟩)⟩)⟩)⟩)⟩)⟩)⟩)⟩)⟩), (List.forall_mem_cons.mpr ⟨T.c_BadDeed.ec X N, (List.forall_mem_nil _)⟩), (List.forall_mem_nil _), (List.forall_mem_nil _), (List.forall_mem_nil _)⟩
theorem fx_x_law_refused : FnX G e_x_law_refused := T.d_x_law_refused.fnx X N sc_x_law_refused rfl (fun _ _ _ _ _ _ us hl => match us, hl with | [_], _ => rfl) rfl (c_x_law_refused (gr_x_law_refused X N T))
theorem gr_law : g_law.Gr G := ⟨(List.forall_mem_cons.mpr ⟨fun t => fx_x_law_deed (G := G.wt t) X N T, (List.forall_mem_cons.mpr ⟨fun t => fx_x_law_words (G := G.wt t) X N T, (List.forall_mem_cons.mpr ⟨fun t => fx_read_deed (G := G.wt t) X N T, (List.forall_mem_cons.mpr ⟨fun t => fx_x_law_mix (G := G.wt t) X N T, (List.forall_mem_cons.mpr ⟨fun t => fx_x_law_at (G := G.wt t) X N T, (List.forall_mem_cons.mpr ⟨fun t => fx_x_law_refused (G := G.wt t) X N T, (List.forall_mem_cons.mpr ⟨fun t => fx_x_law_spoiled (G := G.wt t) X N T, (List.forall_mem_nil _)⟩)⟩)⟩)⟩)⟩)⟩)⟩), (List.forall_mem_cons.mpr ⟨PySem.W.mg_none_of X N T.z_range, (List.forall_mem_nil _)⟩), (List.forall_mem_nil _), (List.forall_mem_nil _), (List.forall_mem_nil _), (List.forall_mem_nil _), (List.forall_mem_nil _), (List.forall_mem_nil _), (List.forall_mem_nil _), (List.forall_mem_nil _), (List.forall_mem_nil _)⟩
end
theorem all_mk {P : Program} {w : World} {K : PySem.W.Frag} {h : Heap} {mg : Str → Option Value} {fa : Addr} (X : K.In h) (N : h.Ns mainGlobals mg) (hfa : mg "law" = some (.ref fa)) (T : Txt K) :
    ∃ fd : FuncData, (∀ (s : Shared) (v : Value), BindsTo s fd ⟨[v], []⟩ [("_law_script", v)]) ∧ ∀ base : Heap, K.In base → base.Ns mainGlobals mg → FnOk P w K mg base (L2.CX P w) 10 fa fd ["_law_script"] (spLaw K 63) := by
  obtain ⟨f, fd, h1, F, kV, doc, pm, an, cdv, ct, efd⟩ := T.d_law.fn
  have e := hfa.symm.trans (PySem.W.mg_of X N h1)
  cases e
  refine ⟨fd, fun s v => by subst efd; exact .of_eq rfl, fun base hb hn => ?_⟩
  exact law_end (G := ⟨P, w, K, mg, base, fun _ => (0, 0), []⟩) (fnok_of (G := ⟨P, w, K, mg, base, fun _ => (0, 0), []⟩) F sc_law rfl rfl (c_law (gr_law (G := ⟨P, w, K, mg, base, fun _ => (0, 0), []⟩) X N T))) law_ok
end K11
theorem PySem.W.Fast.tw3413716545563527494 : True := trivial
theorem PySem.W.Fast.tw17399187330199114959 : True := trivial
theorem PySem.W.Fast.tw7707964072713612540 : True := trivial
theorem PySem.W.Fast.tw74550794663751679 : True := trivial
open PySem PySem.W PyProof.Rows
set_option maxRecDepth 100000 in
set_option maxHeartbeats 0 in
theorem PySem.Challenge.cw_pointpurse_k11_deed_texts_refused_holds : PySem.Challenge.rw_pointpurse_k11_deed_texts_refused.Holds := by
  w_on; o_law; k_head; (case hw => w_witness2)
  k_fill
  refine L2.walk_of (l := PySem.Challenge.rw_pointpurse_k11_deed_texts_refused) (n := 63) (k := 10) (x := "_law_script") (CX := fun w => L2.CX PySem.Challenge.rw_pointpurse_k11_deed_texts_refused.prog w) (sp := fun w => Eng.spLaw _ 63) rfl (by decide) rfl ⟨rfl, by decide, by decide⟩ (fun w h Y => PySem.W.kIn_of Y) ?F (fun _ _ a ns hl _ hS => ⟨a, ns, rfl, hS, hl, fun _ => rfl⟩) (fun _ _ _ _ _ h => Eng.cx_no h)
  case F =>
    intro w mg fa h KX G hmg
    refine K11.all_mk KX G hmg ?_
    constructor
    · exact Eng.DefF.of (by k_is) (by k_is) (by k_is) (by k_is)
    · exact Eng.DefF.of (by k_is) (by k_is) (by k_is) (by k_is)
    · exact Eng.DefF.of (by k_is) (by k_is) (by k_is) (by k_is)
    · exact Eng.DefF.of (by k_is) (by k_is) (by k_is) (by k_is)
    · exact Eng.DefF.of (by k_is) (by k_is) (by k_is) (by k_is)
    · exact Eng.DefF.of (by k_is) (by k_is) (by k_is) (by k_is)
    · exact Eng.DefF.of (by k_is) (by k_is) (by k_is) (by k_is)
    · exact Eng.DefF.of (by k_is) (by k_is) (by k_is) (by k_is)
    · exact Eng.DefF.of (by k_is) (by k_is) (by k_is) (by k_is)
    · exact Eng.DefF.of (by k_is) (by k_is) (by k_is) (by k_is)
    · exact Eng.DefF.of (by k_is) (by k_is) (by k_is) (by k_is)
    · exact Eng.DefF.of (by k_is) (by k_is) (by k_is) (by k_is)
    · exact Eng.DefF.of (by k_is) (by k_is) (by k_is) (by k_is)
    · exact Eng.DefF.of (by k_is) (by k_is) (by k_is) (by k_is)
    · exact Eng.DefF.of (by k_is) (by k_is) (by k_is) (by k_is)
    · exact Eng.DefF.of (by k_is) (by k_is) (by k_is) (by k_is)
    · exact Eng.DefF.of (by k_is) (by k_is) (by k_is) (by k_is)
    · exact Eng.DefF.of (by k_is) (by k_is) (by k_is) (by k_is)
    · exact Eng.DefF.of (by k_is) (by k_is) (by k_is) (by k_is)
    · exact Eng.DefF.of (by k_is) (by k_is) (by k_is) (by k_is)
    · exact Eng.DefF.of (by k_is) (by k_is) (by k_is) (by k_is)
    · exact Eng.DefF.of (by k_is) (by k_is) (by k_is) (by k_is)
    · exact Eng.DefF.of (by k_is) (by k_is) (by k_is) (by k_is)
    · exact Eng.DefF.of (by k_is) (by k_is) (by k_is) (by k_is)
    · exact Eng.DefF.of (by k_is) (by k_is) (by k_is) (by k_is)
    · exact Eng.DefF.of (by k_is) (by k_is) (by k_is) (by k_is)
    · exact Eng.DefF.of (by k_is) (by k_is) (by k_is) (by k_is)
    · exact Eng.DefF.of (by k_is) (by k_is) (by k_is) (by k_is)
    · exact Eng.DefF.of (by k_is) (by k_is) (by k_is) (by k_is)
    · exact Eng.DefF.of (by k_is) (by k_is) (by k_is) (by k_is)
    · exact Eng.ExF.of (by k_is) (by k_exc) (by k_is) (by k_is) (by k_is)
    · exact Eng.MtF.of2 (n := "ValueError") (by k_is) (by k_is) (by decide +kernel) (by decide) (by kit_is)
    · exact Eng.MtF.of1 (by k_is) (by k_is) (by k_is) (by k_is) (by k_is) (by k_is) (by kit_is)
    · exact Eng.MtF.of1 (by k_is) (by k_is) (by k_is) (by k_is) (by k_is) (by k_is) (by kit_is)
    · exact Eng.MtF.of1 (by k_is) (by k_is) (by k_is) (by k_is) (by k_is) (by k_is) (by kit_is)
    · exact Eng.MtF.of1 (by k_is) (by k_is) (by k_is) (by k_is) (by k_is) (by k_is) (by kit_is)
    · exact Eng.MtF.of1 (by k_is) (by k_is) (by k_is) (by k_is) (by k_is) (by k_is) (by kit_is)
    · exact Eng.MtF.of1 (by k_is) (by k_is) (by k_is) (by k_is) (by k_is) (by k_is) (by kit_is)
    · exact Eng.MtF.of1 (by k_is) (by k_is) (by k_is) (by k_is) (by k_is) (by k_is) (by kit_is)
    · exact Eng.MtF.of1 (by k_is) (by k_is) (by k_is) (by k_is) (by k_is) (by k_is) (by kit_is)
    · exact Eng.MtF.of1 (by k_is) (by k_is) (by k_is) (by k_is) (by k_is) (by k_is) (by kit_is)
    · exact Eng.MtF.of1 (by k_is) (by k_is) (by k_is) (by k_is) (by k_is) (by k_is) (by kit_is)
    · exact Eng.MtF.of1 (by k_is) (by k_is) (by k_is) (by k_is) (by k_is) (by k_is) (by kit_is)
    · exact Eng.EcF.of (by k_is) (by k_is) (by k_is) (by k_is) (by k_is) (by k_is) (by k_is) (by k_is) (by k_is)
    · k_is
    · k_is
    · k_is
    · k_is
    · k_is
    · k_is
    · k_is
    · k_is
    · k_is
    · k_is
    · k_is
    · k_is
    · k_is
    · exact Eng.int_of (by k_is)
    · exact Eng.str_of (by k_is)
    · exact Eng.int_of (by k_is)
    · exact Eng.int_of (by k_is)
    · exact Eng.int_of (by k_is)
    · exact Eng.str_of (by k_is)
