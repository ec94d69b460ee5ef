import PyProof.Rows.All
import Wide.All
import OpenK.AllK
import Wide.FinOn
import HandS.ForMost
import HandS.More
import HandS.WordsExc
import HandS.Defaults
import HandS.CallSlots
import HandS.ExcInit
import HandS.ExcInitHot
import HandS.ExcField
import HandS.ExcValue
import HandS.ExcIs
import HandS.SuiteRaise
import HandS.TryMany
import HandS.ExcCtx
import HandS.Hot
import HandS.HotCalls
import HandS.RaiseFrom
import HandS.CallLocal
import KE.KExcIs
import HandS.TryElse
import HandS.Style
import HandS.Flow
import HandS.Conv
import HandS.TupAny
import HandS.TupMul
import HandS.TupLe
import HandS.Zip
import HandS.Remove
import HandS.Deep
import HandS.RevRange
import HandS.RaiseMore
import HandS.IsInst
import HandS.Head0
import HandS.Head1
import HandS.Head2
import HandS.HeadEnd
import HandS.HeadHook1
import HandS.HeadHook2
import HandS.HeadHook3
import KE.KDictKeyed
import KE.KDictLaw
import KE.KDictWalk
import KE.SortData
import KE.LtData
import HandS.SortInts
import KE.GoesMore
import PyProof.EnumMake
import HandS.SortRule
import HandS.Rev
import KE.DataMinMax
import KE.KDictSum
import KE.DataFind
import HandS.Finally
import HandS.TryOnly
import KE.DataCmp
import HandS.Strs
import KE.GoesEnum
import KE.KDictCopyH
import PySem.Challenge.RW_slidehall_k56_halls_written
import KE.KStateDown
import Lean
set_option Elab.async false
set_option linter.all false
set_option maxRecDepth 100000
set_option maxHeartbeats 4000000
/-! Z1: data as trees with owned containers; what stands for them in a heap; the state of a body. -/
namespace Z
open PySem PySem.Spec PyProof.Rows L2

/-! ### data -/
inductive At where
  | non | bl (b : Bool) | int (i : Int) | str (x : Str)
  deriving DecidableEq
def At.v : At → V
  | .non => .non
  | .bl b => .bl b
  | .int i => .int i
  | .str x => .str x
/-- kinds of containers; the Bool: owned (by one place alone), else read by anybody and never changed -/
inductive Kd where
  | tup
  | scr
  | tpn
  | dw (ks : List Str)
  | lst (o : Bool)
  | dk (o : Bool) (ks : List Key)
  | dn (o : Bool) (ks : List NestedKey)
  | ins (o : Bool) (c : Str) (ns : List Str)
  | fn (x : Str)
  | exc (c : Str) (ns : List Str)
  | dl (o : Obj) (es : List (NestedKey × Addr × V))
def Kd.own : Kd → Bool
  | .tup => false
  | .scr => false
  | .tpn => false
  | .dw _ => false
  | .lst o => o
  | .dk o _ => o
  | .dn o _ => o
  | .ins o _ _ => o
  | .fn _ => false
  | .exc _ _ => false
  | .dl _ _ => false
def Kd.fz : Kd → Kd
  | .tup => .tup
  | .scr => .scr
  | .tpn => .tpn
  | .dw ks => .dw ks
  | .lst _ => .lst false
  | .dk _ ks => .dk false ks
  | .dn _ ks => .dn false ks
  | .ins _ c ns => .ins false c ns
  | .fn x => .fn x
  | .exc c ns => .exc c ns
  | .dl o es => .dl o es
inductive D where
  | at (a : At)
  | nd (k : Kd) (xs : List D)

mutual
/-- no container in it is owned -/
def D.pure : D → Bool
  | .at _ => true
  | .nd k xs => !k.own && pureL xs
def pureL : List D → Bool
  | [] => true
  | x :: xs => x.pure && pureL xs
end
mutual
def D.frz : D → D
  | .at a => .at a
  | .nd k xs => .nd k.fz (frzL xs)
def frzL : List D → List D
  | [] => []
  | x :: xs => x.frz :: frzL xs
end
theorem pureL_all : ∀ xs : List D, pureL xs = xs.all D.pure
  | [] => rfl
  | x :: xs => by rw [pureL, List.all_cons, pureL_all xs]
theorem frzL_map : ∀ xs : List D, frzL xs = xs.map D.frz
  | [] => rfl
  | x :: xs => by rw [frzL, List.map_cons, frzL_map xs]
theorem fz_of {k : Kd} (h : k.own = false) : k.fz = k := by
  cases k <;> simp_all [Kd.own, Kd.fz]
theorem fz_own (k : Kd) : k.fz.own = false := by cases k <;> rfl
mutual
theorem frz_pure : ∀ d : D, d.pure = true → d.frz = d
  | .at a, _ => rfl
  | .nd k xs, h => by
    rw [D.pure, Bool.and_eq_true] at h
    rw [D.frz, fz_of (by simpa using h.1), frzL_pure xs h.2]
theorem frzL_pure : ∀ xs : List D, pureL xs = true → frzL xs = xs
  | [], _ => rfl
  | x :: xs, h => by
    rw [pureL, Bool.and_eq_true] at h
    rw [frzL, frz_pure x h.1, frzL_pure xs h.2]
end
mutual
theorem pure_frz : ∀ d : D, d.frz.pure = true
  | .at a => rfl
  | .nd k xs => by
    rw [D.frz, D.pure, fz_own, pureL_frz xs]; rfl
theorem pureL_frz : ∀ xs : List D, pureL (frzL xs) = true
  | [] => rfl
  | x :: xs => by rw [frzL, pureL, pure_frz x, pureL_frz xs]; rfl
end

/-! ### what is fixed: the program, the world, the written part -/
structure M where
  P : Program
  w : World
  K : PySem.W.Frag
  mg : Str → Option Value
abbrev mOf (X : Cx) : M := ⟨X.prog, X.w, X.K, X.mg⟩

/-! ### keys that are tuples -/
mutual
inductive KRep (K : PySem.W.Frag) (F : Hp) : V → NestedKey → Prop
  | non : KRep K F .non .none
  | num (i : Int) : KRep K F (.int i) (.num i)
  | text (x : Str) : KRep K F (.str x) (.text x)
  | tup {a : Addr} {vs : List V} {ks : List NestedKey} : SqT K F a vs → KReps K F vs ks → KRep K F (.ref a) (.tup ks)
inductive KReps (K : PySem.W.Frag) (F : Hp) : List V → List NestedKey → Prop
  | nil : KReps K F [] []
  | cons {v : V} {vs : List V} {k : NestedKey} {ks : List NestedKey} : KRep K F v k → KReps K F vs ks → KReps K F (v :: vs) (k :: ks)
end
/-- a dict with keys that are tuples, by its entries -/
def dnO (P : Program) (w : World) (a : Addr) (o : Obj) (es : List (NestedKey × Addr × V)) : HO := .ext fun h => ∃ (arr : Array DictEntry) (ep : Nat) (xs : List (NestedKey × Addr × Value)),
  h.get? a = some o ∧ o.ExactDict ∧ o.data = .dict arr ep ∧ arr.toList = xs.map (entryOfKey (nestedKind P w)) ∧
    Paired (fun (p : NestedKey × Addr × V) (q : NestedKey × Addr × Value) => p.1 = q.1 ∧ p.2.1 = q.2.1 ∧ RelV p.2.2 q.2.2) es xs ∧ (xs.map (·.1)).Nodup
/-- such a dict, whatever its object -/
def DnI (P : Program) (w : World) (H : Hp) (a : Addr) (es : List (NestedKey × Addr × V)) : Prop := ∃ o, H a = some (dnO P w a o es)
/-- at a (in G) stands such a dict; its keys' tuples in F -/
def DnAt (m : M) (G F : Hp) (a : Addr) (ks : List NestedKey) (vs : List V) : Prop :=
  ∃ es : List (NestedKey × Addr × V), es.map (·.1) = ks ∧ es.map (·.2.2) = vs ∧ DnI m.P m.w G a es ∧ (∀ e ∈ es, KRep m.K F (.ref e.2.1) e.1 ∧ e.1.depth ≤ 8) ∧ (a == sysModules) = false ∧ ks.length ≤ sizeLine ∧ ks.Nodup
/-- a dict with plain keys -/
def DkAt (G : Hp) (a : Addr) (ks : List Key) (vs : List V) : Prop :=
  ks.length = vs.length ∧ ks.Nodup ∧ G a = some (.dK (ks.zip vs))

/-- a dict of the top with text keys -/
def DwAt (m : M) (a : Addr) (ks : List Str) (vs : List V) : Prop :=
  ∃ es n, KDict m.K m.w a es n ∧ ks.length = vs.length ∧ ∀ (i : Nat) (x : Str) (v : V), ks[i]? = some x → vs[i]? = some v → ∃ u, PySem.W.nsIn m.K a x = some (some u) ∧ RelV v u

/-- an exception that was caught (n: its context is None) -/
def exRb (n : Bool) (cls : Value) (dx : Option Addr) (a : Addr) : HO := .ext fun h => ∃ (oe : Obj) (vs : Array Value), h.get? a = some oe ∧ L2.Zc cls dx oe ∧ oe.data = .fields vs ∧ (n = true → vs[2]? = some .none)
/-! ### what stands for data: F what nobody changes any more, H the heap; the list: the owned places -/
def ObjF (m : M) (F : Hp) : Kd → Addr → List V → Prop
  | .tup, a, vs => SqT m.K F a vs
  | .scr, a, vs => SqL m.K F a vs
  | .tpn, a, vs => ∃ o, F a = some (.frz o (.tup vs)) ∧ o.cls = .type "tuple" ∧ o.dict = none
  | .dw ks, a, vs => DwAt m a ks vs
  | .lst _, a, vs => F a = some (.lst vs)
  | .dk _ ks, a, vs => DkAt F a ks vs
  | .dn _ ks, a, vs => DnAt m F F a ks vs
  | .ins _ c ns, a, vs => ∃ C dx, m.mg c = some (.ref C) ∧ ns.length = vs.length ∧ F a = some (.ins C dx (ns.zip vs)) ∧ F dx = some (.own a)
  | .fn x, a, vs => m.mg x = some (.ref a) ∧ vs = []
  | .exc c ns, a, vs => ∃ C dx n, m.mg c = some (.ref C) ∧ ns.length = vs.length ∧ F a = some (exRb n (.ref C) dx a) ∧ ((ns = [] ∧ dx = none) ∨ ∃ d, dx = some d ∧ F d = some (.xd (ns.zip vs)))
  | .dl o es, a, vs => es.map (·.2.2) = vs ∧ F a = some (dnO m.P m.w a o es) ∧ ∀ e ∈ es, KRep m.K F (.ref e.2.1) e.1 ∧ e.1.depth ≤ 8
def ObjO (m : M) (F H : Hp) : Kd → Addr → List V → List Addr → Prop
  | .tup, _, _, _ => False
  | .scr, _, _, _ => False
  | .tpn, _, _, _ => False
  | .dw _, _, _, _ => False
  | .lst _, a, vs, ex => ex = [] ∧ H a = some (.lst vs)
  | .dk _ ks, a, vs, ex => ex = [] ∧ DkAt H a ks vs
  | .dn _ ks, a, vs, ex => ex = [] ∧ DnAt m H F a ks vs
  | .ins _ c ns, a, vs, ex => ∃ C dx, ex = [dx] ∧ m.mg c = some (.ref C) ∧ ns.length = vs.length ∧ H a = some (.ins C dx (ns.zip vs)) ∧ H dx = some (.own a)
  | .fn _, _, _, _ => False
  | .exc _ _, _, _, _ => False
  | .dl _ _, _, _, _ => False
mutual
inductive Rep (m : M) (F H : Hp) : V → D → List Addr → Prop
  | at (a : At) : Rep m F H a.v (.at a) []
  | fz {k : Kd} {a : Addr} {vs : List V} {ds : List D} {A : List Addr} : k.own = false → ObjF m F k a vs → Reps m F H vs ds A → ((k = .tup ∧ Rd F a (.tup vs)) ∨ A = []) → Rep m F H (.ref a) (.nd k ds) A
  | ow {k : Kd} {a : Addr} {vs : List V} {ds : List D} {A ex : List Addr} : k.own = true → ObjO m F H k a vs ex → Reps m F H vs ds A → Rep m F H (.ref a) (.nd k ds) (a :: (ex ++ A))
inductive Reps (m : M) (F H : Hp) : List V → List D → List Addr → Prop
  | nil : Reps m F H [] [] []
  | cons {v : V} {vs : List V} {d : D} {ds : List D} {A B : List Addr} : Rep m F H v d A → Reps m F H vs ds B → Reps m F H (v :: vs) (d :: ds) (A ++ B)
end

theorem Same.sqT {K : PySem.W.Frag} {F F' : Hp} {a : Addr} {xs : List V} (e : Same F F') (h : SqT K F a xs) : SqT K F' a xs := by
  rcases h with (h | ⟨o, h⟩) | h
  · exact .inl (.inl (e _ _ h))
  · exact .inl (.inr ⟨o, e _ _ h⟩)
  · exact .inr h
mutual
theorem KRep.mono {K : PySem.W.Frag} {F F' : Hp} (e : Same F F') : ∀ {v : V} {k : NestedKey}, KRep K F v k → KRep K F' v k
  | _, _, .non => .non
  | _, _, .num i => .num i
  | _, _, .text x => .text x
  | _, _, .tup h r => .tup (Same.sqT e h) (KReps.mono e r)
theorem KReps.mono {K : PySem.W.Frag} {F F' : Hp} (e : Same F F') : ∀ {vs : List V} {ks : List NestedKey}, KReps K F vs ks → KReps K F' vs ks
  | _, _, .nil => .nil
  | _, _, .cons h r => .cons (KRep.mono e h) (KReps.mono e r)
end
theorem DnAt.mono {m : M} {G G' F F' : Hp} {a : Addr} {ks : List NestedKey} {vs : List V} (h : DnAt m G F a ks vs) (e : Same F F') (g : G a = G' a) : DnAt m G' F' a ks vs := by
  obtain ⟨es, h1, h2, h3, h4, h5⟩ := h
  exact ⟨es, h1, h2, (by unfold DnI at h3 ⊢; rw [← g]; exact h3), fun x hx => ⟨KRep.mono e (h4 x hx).1, (h4 x hx).2⟩, h5⟩
theorem DnAt.monoS {m : M} {F F' : Hp} {a : Addr} {ks : List NestedKey} {vs : List V} (h : DnAt m F F a ks vs) (e : Same F F') : DnAt m F' F' a ks vs := by
  obtain ⟨es, h1, h2, h3, h4, h5⟩ := h
  exact ⟨es, h1, h2, h3.imp fun _ q => e _ _ q, fun x hx => ⟨KRep.mono e (h4 x hx).1, (h4 x hx).2⟩, h5⟩
theorem ObjF.mono {m : M} {F F' : Hp} (e : Same F F') : ∀ {k : Kd} {a : Addr} {vs : List V}, ObjF m F k a vs → ObjF m F' k a vs
  | .tup, _, _, h => Same.sqT e h
  | .scr, _, _, h => Same.seq e h
  | .tpn, _, _, ⟨o, h1, h2⟩ => ⟨o, e _ _ h1, h2⟩
  | .dw _, _, _, h => h
  | .lst _, _, _, h => e _ _ h
  | .dk _ _, _, _, ⟨h1, h2, h3⟩ => ⟨h1, h2, e _ _ h3⟩
  | .dn _ _, _, _, h => h.monoS e
  | .ins _ _ _, _, _, ⟨C, dx, h1, h2, h3, h4⟩ => ⟨C, dx, h1, h2, e _ _ h3, e _ _ h4⟩
  | .fn _, _, _, h => h
  | .exc _ _, _, _, ⟨C, dx, n, h1, h2, h3, h4⟩ => ⟨C, dx, n, h1, h2, e _ _ h3, h4.imp id fun ⟨d, h5, h6⟩ => ⟨d, h5, e _ _ h6⟩⟩
  | .dl _ _, _, _, ⟨h1, h2, h3⟩ => ⟨h1, e _ _ h2, fun x hx => ⟨KRep.mono e (h3 x hx).1, (h3 x hx).2⟩⟩
theorem ObjO.mono {m : M} {F F' H H' : Hp} (e : Same F F') : ∀ {k : Kd} {a : Addr} {vs : List V} {ex : List Addr}, ObjO m F H k a vs ex → (∀ b ∈ a :: ex, H' b = H b) → ObjO m F' H' k a vs ex
  | .tup, _, _, _, h, _ => h.elim
  | .scr, _, _, _, h, _ => h.elim
  | .tpn, _, _, _, h, _ => h.elim
  | .dw _, _, _, _, h, _ => h.elim
  | .lst _, a, _, _, ⟨h1, h⟩, k => ⟨h1, (k a List.mem_cons_self).trans h⟩
  | .dk _ _, a, _, _, ⟨h0, h1, h2, h3⟩, k => ⟨h0, h1, h2, (k a List.mem_cons_self).trans h3⟩
  | .dn _ _, a, _, _, ⟨h0, h⟩, k => ⟨h0, h.mono e (k a List.mem_cons_self).symm⟩
  | .ins _ _ _, a, _, _, ⟨C, dx, h0, h1, h2, h3, h4⟩, k => ⟨C, dx, h0, h1, h2, (k a List.mem_cons_self).trans h3, (k dx (by rw [h0]; simp)).trans h4⟩
  | .fn _, _, _, _, h, _ => h.elim
  | .exc _ _, _, _, _, h, _ => h.elim
  | .dl _ _, _, _, _, h, _ => h.elim
/-- owned becomes frozen -/
theorem ObjO.freeze {m : M} {F F' H : Hp} (e : Same F F') : ∀ {k : Kd} {a : Addr} {vs : List V} {ex : List Addr}, ObjO m F H k a vs ex → (∀ b ∈ a :: ex, F' b = H b) → ObjF m F' k.fz a vs
  | .tup, _, _, _, h, _ => h.elim
  | .scr, _, _, _, h, _ => h.elim
  | .tpn, _, _, _, h, _ => h.elim
  | .dw _, _, _, _, h, _ => h.elim
  | .lst _, a, _, _, ⟨h1, h⟩, k => (k a List.mem_cons_self).trans h
  | .dk _ _, a, _, _, ⟨h0, h1, h2, h3⟩, k => ⟨h1, h2, (k a List.mem_cons_self).trans h3⟩
  | .dn _ _, a, _, _, ⟨h0, h⟩, k => h.mono e (k a List.mem_cons_self).symm
  | .ins _ _ _, a, _, _, ⟨C, dx, h0, h1, h2, h3, h4⟩, k => ⟨C, dx, h1, h2, (k a List.mem_cons_self).trans h3, (k dx (by rw [h0]; simp)).trans h4⟩
  | .fn _, _, _, _, h, _ => h.elim
  | .exc _ _, _, _, _, h, _ => h.elim
  | .dl _ _, _, _, _, h, _ => h.elim

section
variable {m : M} {F F' H H' : Hp}
mutual
theorem Rep.mono (e : Same F F') : ∀ {v : V} {d : D} {A : List Addr}, Rep m F H v d A → (∀ b ∈ A, H' b = H b) → Rep m F' H' v d A
  | _, _, _, .at a, _ => .at a
  | _, _, _, .fz h1 h2 h3 h4, k => .fz h1 (h2.mono e) (Reps.mono e h3 k) (h4.imp (fun q => ⟨q.1, q.2.imp (e _ _) fun ⟨o, y⟩ => ⟨o, e _ _ y⟩⟩) id)
  | _, _, _, .ow (A := A) (ex := ex) h1 h2 h3, k => .ow h1 (h2.mono e fun b hb => k b (by
      rcases List.mem_cons.mp hb with z | z
      · rw [z]; exact List.mem_cons_self
      · exact List.mem_cons_of_mem _ (List.mem_append_left _ z))) (Reps.mono e h3 fun b hb => k b (List.mem_cons_of_mem _ (List.mem_append_right _ hb)))
theorem Reps.mono (e : Same F F') : ∀ {vs : List V} {ds : List D} {A : List Addr}, Reps m F H vs ds A → (∀ b ∈ A, H' b = H b) → Reps m F' H' vs ds A
  | _, _, _, .nil, _ => .nil
  | _, _, _, .cons h r, k => .cons (Rep.mono e h fun b hb => k b (List.mem_append_left _ hb)) (Reps.mono e r fun b hb => k b (List.mem_append_right _ hb))
end
mutual
theorem Rep.freeze (e : Same F F') : ∀ {v : V} {d : D} {A : List Addr}, Rep m F H v d A → (∀ b ∈ A, F' b = H b) → Rep m F' H' v d.frz []
  | _, _, _, .at a, _ => .at a
  | _, _, _, .fz (k := k) h1 h2 h3 h4, kk => by
    rw [D.frz]
    exact .fz (fz_own k) (by rw [fz_of h1]; exact h2.mono e) (Reps.freeze e h3 kk) (.inr rfl)
  | _, _, _, .ow (k := k) (A := A) (ex := ex) h1 h2 h3, kk => by
    rw [D.frz]
    exact .fz (fz_own k) (h2.freeze e fun b hb => kk b (by
      rcases List.mem_cons.mp hb with z | z
      · rw [z]; exact List.mem_cons_self
      · exact List.mem_cons_of_mem _ (List.mem_append_left _ z))) (Reps.freeze e h3 fun b hb => kk b (List.mem_cons_of_mem _ (List.mem_append_right _ hb))) (.inr rfl)
theorem Reps.freeze (e : Same F F') : ∀ {vs : List V} {ds : List D} {A : List Addr}, Reps m F H vs ds A → (∀ b ∈ A, F' b = H b) → Reps m F' H' vs (frzL ds) []
  | _, _, _, .nil, _ => .nil
  | _, _, _, .cons (A := A) (B := B) h r, k => by
    rw [frzL]
    exact .cons (A := []) (B := []) (Rep.freeze e h fun b hb => k b (List.mem_append_left _ hb)) (Reps.freeze e r fun b hb => k b (List.mem_append_right _ hb))
end
mutual
theorem Rep.nil_of : ∀ {v : V} {d : D} {A : List Addr}, Rep m F H v d A → d.pure = true → A = []
  | _, _, _, .at a, _ => rfl
  | _, _, _, .fz h1 h2 h3 h4, p => by
    rw [D.pure, Bool.and_eq_true] at p
    exact Reps.nil_of h3 p.2
  | _, _, _, .ow h1 h2 h3, p => by
    rw [D.pure, Bool.and_eq_true, h1] at p
    exact absurd p.1 (by simp)
theorem Reps.nil_of : ∀ {vs : List V} {ds : List D} {A : List Addr}, Reps m F H vs ds A → pureL ds = true → A = []
  | _, _, _, .nil, _ => rfl
  | _, _, _, .cons h r, p => by
    rw [pureL, Bool.and_eq_true] at p
    rw [Rep.nil_of h p.1, Reps.nil_of r p.2]; rfl
end
theorem Rep.pureR {v : V} {d : D} {A : List Addr} (h : Rep m F H v d A) (p : d.pure = true) (e : Same F F') : Rep m F' H' v d [] := by
  have z := h.nil_of p
  subst z
  exact h.mono e fun b hb => absurd hb (by simp)
theorem Reps.pureR {vs : List V} {ds : List D} {A : List Addr} (h : Reps m F H vs ds A) (p : pureL ds = true) (e : Same F F') : Reps m F' H' vs ds [] := by
  have z := h.nil_of p
  subst z
  exact h.mono e fun b hb => absurd hb (by simp)
theorem Reps.length : ∀ {vs : List V} {ds : List D} {A : List Addr}, Reps m F H vs ds A → vs.length = ds.length
  | _, _, _, .nil => rfl
  | _, _, _, .cons _ r => by rw [List.length_cons, List.length_cons, Reps.length r]
theorem Reps.get : ∀ {vs : List V} {ds : List D} {A : List Addr} {i : Nat} {d : D}, Reps m F H vs ds A → ds[i]? = some d → ∃ v B, vs[i]? = some v ∧ Rep m F H v d B ∧ (∀ b ∈ B, b ∈ A)
  | _, _, _, _, _, .nil, h => by simp at h
  | _, _, _, 0, d, .cons h r, e => by
    simp at e; subst e
    exact ⟨_, _, rfl, h, fun b hb => List.mem_append_left _ hb⟩
  | _, _, _, i + 1, d, .cons h r, e => by
    obtain ⟨v, B, h1, h2, h3⟩ := Reps.get (i := i) r (by simpa using e)
    exact ⟨v, B, by simpa using h1, h2, fun b hb => List.mem_append_right _ (h3 b hb)⟩
theorem Reps.append : ∀ {vs ws : List V} {ds es : List D} {A B : List Addr}, Reps m F H vs ds A → Reps m F H ws es B → Reps m F H (vs ++ ws) (ds ++ es) (A ++ B)
  | _, _, _, _, _, _, .nil, s => s
  | _, _, _, _, _, B, .cons (A := A1) (B := A2) h r, s => by
    rw [List.append_assoc]
    exact .cons h (Reps.append r s)
end
end Z

set_option Elab.async false
set_option linter.all false
set_option maxRecDepth 100000
set_option maxHeartbeats 4000000
/-! Z2: the state of a body: slots, what is held meanwhile, the frame rule. -/
namespace Z
open PySem PySem.Spec PyProof.Rows L2

abbrev Sl := List (Option V)
abbrev Env := List (Option D)
/-- an exception that leaves: its class's name, its fields -/
structure EX where
  cls : Str
  fs : List (Str × At)
inductive R (α : Type) where
  | ok (a : α) (ρ : Env)
  | ex (e : EX) (ρ : Env)
  | stuck
def R.bind {α β : Type} : R α → (α → Env → R β) → R β
  | .ok a ρ, k => k a ρ
  | .ex e ρ, _ => .ex e ρ
  | .stuck, _ => .stuck
abbrev EF := Env → R D

/-! ### slots -/
inductive RepE (m : M) (F H : Hp) : Sl → Env → List Addr → Prop
  | nil : RepE m F H [] [] []
  | no {s : Option V} {σ : Sl} {ρ : Env} {A : List Addr} : RepE m F H σ ρ A → RepE m F H (s :: σ) (none :: ρ) A
  | yes {v : V} {d : D} {σ : Sl} {ρ : Env} {A B : List Addr} : Rep m F H v d A → RepE m F H σ ρ B → RepE m F H (some v :: σ) (some d :: ρ) (A ++ B)
section
variable {m : M} {F F' H H' : Hp}
theorem RepE.mono (e : Same F F') : ∀ {σ : Sl} {ρ : Env} {A : List Addr}, RepE m F H σ ρ A → (∀ b ∈ A, H' b = H b) → RepE m F' H' σ ρ A
  | _, _, _, .nil, _ => .nil
  | _, _, _, .no r, k => .no (RepE.mono e r k)
  | _, _, _, .yes h r, k => .yes (h.mono e fun b hb => k b (List.mem_append_left _ hb)) (RepE.mono e r fun b hb => k b (List.mem_append_right _ hb))
theorem RepE.length : ∀ {σ : Sl} {ρ : Env} {A : List Addr}, RepE m F H σ ρ A → σ.length = ρ.length
  | _, _, _, .nil => rfl
  | _, _, _, .no r => by rw [List.length_cons, List.length_cons, RepE.length r]
  | _, _, _, .yes h r => by rw [List.length_cons, List.length_cons, RepE.length r]
/-- take what stands in a slot -/
theorem RepE.take : ∀ {σ : Sl} {ρ : Env} {A : List Addr} {i : Nat} {d : D}, RepE m F H σ ρ A → ρ[i]? = some (some d) →
    ∃ v B C, σ[i]? = some (some v) ∧ Rep m F H v d B ∧ RepE m F H σ (ρ.set i none) C ∧ A.Perm (B ++ C)
  | _, _, _, _, _, .nil, h => by simp at h
  | _, _, _, 0, _, .no _, h => by simp at h
  | _, _, _, 0, d, .yes (A := A) (B := B) h r, e => by
    simp at e; subst e
    exact ⟨_, A, B, rfl, h, by simpa using RepE.no r, List.Perm.refl _⟩
  | _, _, _, i + 1, d, .no r, e => by
    obtain ⟨v, B, C, h1, h2, h3, h4⟩ := RepE.take (i := i) r (by simpa using e)
    exact ⟨v, B, C, by simpa using h1, h2, by simpa using RepE.no h3, h4⟩
  | _, _, _, i + 1, d, .yes (A := A1) (B := B1) h r, e => by
    obtain ⟨v, B, C, h1, h2, h3, h4⟩ := RepE.take (i := i) r (by simpa using e)
    refine ⟨v, B, A1 ++ C, by simpa using h1, h2, by simpa using RepE.yes h h3, ?_⟩
    refine (List.Perm.append_left A1 h4).trans ?_
    rw [← List.append_assoc, ← List.append_assoc]
    exact List.Perm.append_right C List.perm_append_comm
/-- put something into an empty slot -/
theorem RepE.put : ∀ {σ : Sl} {ρ : Env} {A B : List Addr} {i : Nat} {v : V} {d : D}, RepE m F H σ ρ A → ρ[i]? = some none → σ[i]? = some (some v) → Rep m F H v d B →
    ∃ C, RepE m F H σ (ρ.set i (some d)) C ∧ C.Perm (B ++ A)
  | _, _, _, _, _, _, _, .nil, h, _, _ => by simp at h
  | _, _, A, B, 0, v, d, .no r, _, e, h => by
    simp at e; subst e
    exact ⟨B ++ A, by simpa using RepE.yes h r, List.Perm.refl _⟩
  | _, _, _, _, 0, _, _, .yes _ _, h, _, _ => by simp at h
  | _, _, _, B, i + 1, v, d, .no r, e1, e2, h => by
    obtain ⟨C, h1, h2⟩ := RepE.put (i := i) r (by simpa using e1) (by simpa using e2) h
    exact ⟨C, by simpa using RepE.no h1, h2⟩
  | _, _, _, B, i + 1, v, d, .yes (A := A1) (B := B1) hh r, e1, e2, h => by
    obtain ⟨C, h1, h2⟩ := RepE.put (i := i) r (by simpa using e1) (by simpa using e2) h
    refine ⟨A1 ++ C, by simpa using RepE.yes hh h1, ?_⟩
    refine (List.Perm.append_left A1 h2).trans ?_
    rw [← List.append_assoc, ← List.append_assoc]
    exact List.Perm.append_right B1 List.perm_append_comm
/-- an empty slot's value plays no part -/
theorem RepE.setS : ∀ {σ : Sl} {ρ : Env} {A : List Addr} {i : Nat} {x : Option V}, RepE m F H σ ρ A → ρ[i]? = some none → RepE m F H (σ.set i x) ρ A
  | _, _, _, _, _, .nil, h => by simp at h
  | _, _, _, 0, x, .no r, _ => by simpa using RepE.no r
  | _, _, _, 0, _, .yes _ _, h => by simp at h
  | _, _, _, i + 1, x, .no r, e => by simpa using RepE.no (RepE.setS (i := i) r (by simpa using e))
  | _, _, _, i + 1, x, .yes h r, e => by simpa using RepE.yes h (RepE.setS (i := i) r (by simpa using e))
/-- forget a slot -/
theorem RepE.drop {σ : Sl} {ρ : Env} {A : List Addr} {i : Nat} (r : RepE m F H σ ρ A) : ∃ B, RepE m F H σ (ρ.set i none) B ∧ ∃ C, A.Perm (C ++ B) := by
  cases e : ρ[i]? with
  | none =>
    rw [List.set_eq_of_length_le (List.getElem?_eq_none_iff.mp e)]
    exact ⟨A, r, [], List.Perm.refl _⟩
  | some o =>
    cases o with
    | none =>
      have z : ρ.set i none = ρ := by
        obtain ⟨h1, h2⟩ := List.getElem?_eq_some_iff.mp e
        rw [← h2, List.set_getElem_self]
      rw [z]
      exact ⟨A, r, [], List.Perm.refl _⟩
    | some d =>
      obtain ⟨v, B, C, h1, h2, h3, h4⟩ := r.take e
      exact ⟨C, h3, B, h4⟩
end

/-! ### the state -/
/-- the entry: what was frozen, the heap, what was handed in, the parameters that keep their values -/
structure Cz where
  F : Hp
  H : Hp
  A : List Addr
  par : List (Nat × Option V)
structure ZSx (m : M) (c : Cz) (ρ : Env) (T : List D) (σ : Sl) (tv : List V) (H F : Hp) (A B : List Addr) : Prop where
  sub : Same F H
  sl : RepE m F H σ ρ A
  tm : Reps m F H tv T B
  nd : (A ++ B).Nodup
  nf : ∀ a ∈ A ++ B, F a = none
  fin : Same c.F F
  fnw : ∀ a o, F a = some o → c.F a = some o ∨ a ∈ c.A ∨ c.H a = none
  own : ∀ a ∈ A ++ B, a ∈ c.A ∨ c.H a = none
  keep : ∀ a o, c.H a = some o → a ∉ c.A → H a = some o
  thr : ∀ a, H a = none → c.H a = none
  par : ∀ p ∈ c.par, σ[p.1]? = some p.2
def ZS (m : M) (c : Cz) (ρ : Env) (T : List D) (σ : Sl) (tv : List V) (H : Hp) : Prop := ∃ F A B, ZSx m c ρ T σ tv H F A B

/-- what a rule that only reads hands on: something frozen or new -/
def Yl (m : M) (F H : Hp) (d : D) (Q : VK) : Prop := ∀ (v : V) (H' F' : Hp) (A' : List Addr), Same F F' → Same F' H' → Rep m F' H' v d A' → A'.Nodup → (∀ a ∈ A', F' a = none) → (∀ a ∈ A', H a = none) →
  (∀ a o, F' a = some o → F a = some o ∨ H a = none) → Same H H' → Q v H'

section
variable {m : M} {c : Cz} {ρ : Env} {T : List D} {σ : Sl} {tv : List V} {H F : Hp} {A B : List Addr}
theorem Same.none {H H' : Hp} (e : Same H H') {a : Addr} (h : H' a = none) : H a = none := e.free h
mutual
theorem Rep.there : ∀ {v : V} {d : D} {A : List Addr}, Rep m F H v d A → ∀ b ∈ A, ∃ o, H b = some o
  | _, _, _, .at a, b, hb => absurd hb (by simp)
  | _, _, _, .fz h1 h2 h3 h4, b, hb => Reps.there h3 b hb
  | _, _, _, .ow (k := k) (a := a) (ex := ex) h1 h2 h3, b, hb => by
    have hO : ∀ {k : Kd} {a : Addr} {vs : List V} {ex : List Addr}, ObjO m F H k a vs ex → ∀ b ∈ a :: ex, ∃ o, H b = some o := by
      intro k a vs ex h b hb
      cases k with
      | tup => exact h.elim
      | scr => exact h.elim
      | tpn => exact h.elim
      | dw _ => exact h.elim
      | fn _ => exact h.elim
      | exc _ _ => exact h.elim
      | dl _ _ => exact h.elim
      | lst o =>
        obtain ⟨rfl, h⟩ := h
        have e : b = a := by simpa using hb
        exact ⟨_, e ▸ h⟩
      | dk o ks =>
        obtain ⟨rfl, _, _, h⟩ := h
        have e : b = a := by simpa using hb
        exact ⟨_, e ▸ h⟩
      | dn o ks =>
        obtain ⟨rfl, es, _, _, ⟨_, h⟩, _⟩ := h
        have e : b = a := by simpa using hb
        exact ⟨_, e ▸ h⟩
      | ins o cc ns =>
        obtain ⟨C, dx, rfl, _, _, h, h'⟩ := h
        rcases List.mem_cons.mp hb with e | e
        · exact ⟨_, e ▸ h⟩
        · have e : b = dx := by simpa using e
          exact ⟨_, e ▸ h'⟩
    rcases List.mem_cons.mp hb with e | hb
    · exact hO h2 b (e ▸ List.mem_cons_self)
    · rcases List.mem_append.mp hb with hb | hb
      · exact hO h2 b (List.mem_cons_of_mem _ hb)
      · exact Reps.there h3 b hb
theorem Reps.there : ∀ {vs : List V} {ds : List D} {A : List Addr}, Reps m F H vs ds A → ∀ b ∈ A, ∃ o, H b = some o
  | _, _, _, .nil, b, hb => absurd hb (by simp)
  | _, _, _, .cons h r, b, hb => (List.mem_append.mp hb).elim (Rep.there h b) (Reps.there r b)
end
theorem RepE.there : ∀ {σ : Sl} {ρ : Env} {A : List Addr}, RepE m F H σ ρ A → ∀ b ∈ A, ∃ o, H b = some o
  | _, _, _, .nil, b, hb => absurd hb (by simp)
  | _, _, _, .no r, b, hb => RepE.there r b hb
  | _, _, _, .yes h r, b, hb => (List.mem_append.mp hb).elim (h.there b) (RepE.there r b)

/-- THE FRAME RULE for what only reads -/
theorem ZSx.yield {d : D} {Q : VK} (s : ZSx m c ρ T σ tv H F A B) (k : ∀ v H', ZS m c ρ (d :: T) σ (v :: tv) H' → Same H H' → Q v H') : Yl m F H d Q := by
  intro v H' F' A' e1 e2 r n1 n2 n3 n4 e3
  have hk : ∀ b ∈ A ++ B, H' b = H b := fun b hb => by
    obtain ⟨o, ho⟩ : ∃ o, H b = some o := (List.mem_append.mp hb).elim (s.sl.there b) (s.tm.there b)
    rw [ho]; exact e3 _ _ ho
  have dj : ∀ b ∈ A', b ∉ A ++ B := fun b hb hb' => by
    obtain ⟨o, ho⟩ : ∃ o, H b = some o := (List.mem_append.mp hb').elim (s.sl.there b) (s.tm.there b)
    rw [n3 b hb] at ho; cases ho
  refine k v H' ⟨F', A, A' ++ B, ⟨e2, s.sl.mono e1 fun b hb => hk b (List.mem_append_left _ hb), .cons r (s.tm.mono e1 fun b hb => hk b (List.mem_append_right _ hb)), ?_, ?_, s.fin.trans e1, ?_, ?_, fun a o h1 h2 => e3 _ _ (s.keep a o h1 h2), fun a h => s.thr a (e3.free h), s.par⟩⟩ e3
  · have p : (A ++ (A' ++ B)).Perm (A' ++ (A ++ B)) := by
      rw [← List.append_assoc, ← List.append_assoc]
      exact List.Perm.append_right B List.perm_append_comm
    rw [p.nodup_iff, List.nodup_append]
    exact ⟨n1, s.nd, fun a ha b hb e => dj a ha (e ▸ hb)⟩
  · intro a ha
    rcases List.mem_append.mp ha with h | h
    · cases q : F' a with
      | none => rfl
      | some o =>
        rcases n4 a o q with z | z
        · rw [s.nf a (List.mem_append_left _ h)] at z; cases z
        · obtain ⟨o', ho⟩ := s.sl.there a h
          rw [z] at ho; cases ho
    · rcases List.mem_append.mp h with h | h
      · exact n2 a h
      · cases q : F' a with
        | none => rfl
        | some o =>
          rcases n4 a o q with z | z
          · rw [s.nf a (List.mem_append_right _ h)] at z; cases z
          · obtain ⟨o', ho⟩ := s.tm.there a h
            rw [z] at ho; cases ho
  · intro a o h
    rcases n4 a o h with z | z
    · exact s.fnw a o z
    · exact .inr (.inr (s.thr a z))
  · intro a ha
    rcases List.mem_append.mp ha with h | h
    · exact s.own a (List.mem_append_left _ h)
    · rcases List.mem_append.mp h with h | h
      · exact .inr (s.thr a (n3 a h))
      · exact s.own a (List.mem_append_right _ h)
/-- nothing new -/
theorem Yl.same {d : D} {Q : VK} (y : Yl m F H d Q) (s : Same F H) {v : V} (r : Rep m F H v d []) : Q v H :=
  y v H F [] (Same.refl _) s r List.nodup_nil (fun _ h => absurd h (by simp)) (fun _ h => absurd h (by simp)) (fun _ _ h => .inl h) (Same.refl _)
theorem Yl.atom {a : At} {Q : VK} (y : Yl m F H (.at a) Q) (s : Same F H) : Q a.v H := y.same s (.at a)

theorem ZSx.re (s : ZSx m c ρ T σ tv H F A B) : ZSx m ⟨F, H, A ++ B, []⟩ ρ T σ tv H F A B :=
  ⟨s.sub, s.sl, s.tm, s.nd, s.nf, Same.refl _, fun _ _ h => .inl h, fun _ h => .inl h, fun _ _ h _ => h, fun _ h => h, fun _ h => absurd h (by simp)⟩
/-- back from the younger entry -/
theorem ZSx.back {ρ' : Env} {T' : List D} {σ' : Sl} {tv' : List V} {H' F' : Hp} {A' B' : List Addr} (s : ZSx m c ρ T σ tv H F A B) (z : ZSx m ⟨F, H, A ++ B, []⟩ ρ' T' σ' tv' H' F' A' B') (hp : ∀ p ∈ c.par, σ'[p.1]? = some p.2) :
    ZSx m c ρ' T' σ' tv' H' F' A' B' where
  sub := z.sub
  sl := z.sl
  tm := z.tm
  nd := z.nd
  nf := z.nf
  fin := s.fin.trans z.fin
  fnw := fun a o h => by
    rcases z.fnw a o h with q | q | q
    · exact s.fnw a o q
    · exact .inr (s.own a q)
    · exact .inr (.inr (s.thr a q))
  own := fun a ha => by
    rcases z.own a ha with q | q
    · exact s.own a q
    · exact .inr (s.thr a q)
  keep := fun a o h1 h2 => by
    refine z.keep a o (s.keep a o h1 h2) fun q => ?_
    rcases s.own a q with q | q
    · exact h2 q
    · rw [q] at h1; cases h1
  thr := fun a h => s.thr a (z.thr a h)
  par := hp

/-! ### moving among what is held -/
theorem Reps.perm2 {v w : V} {vs : List V} {d e : D} {ds : List D} {A : List Addr} (r : Reps m F H (v :: w :: vs) (d :: e :: ds) A) : ∃ B, Reps m F H (w :: v :: vs) (e :: d :: ds) B ∧ A.Perm B := by
  cases r with
  | cons h r =>
    rename_i A1 A2
    cases r with
    | cons h' r =>
      rename_i A3 A4
      refine ⟨A3 ++ (A1 ++ A4), .cons h' (.cons h r), ?_⟩
      rw [← List.append_assoc, ← List.append_assoc]
      exact List.Perm.append_right A4 List.perm_append_comm
/-- another list of held things with the same places -/
theorem ZSx.tmPerm {T' : List D} {tv' : List V} {B' : List Addr} (s : ZSx m c ρ T σ tv H F A B) (r : Reps m F H tv' T' B') (p : ∃ C, B.Perm (C ++ B')) : ZSx m c ρ T' σ tv' H F A B' := by
  obtain ⟨C, p⟩ := p
  have sub : ∀ b ∈ B', b ∈ B := fun b hb => p.mem_iff.mpr (List.mem_append_right _ hb)
  refine ⟨s.sub, s.sl, r, ?_, fun a ha => s.nf a ?_, s.fin, s.fnw, fun a ha => s.own a ?_, s.keep, s.thr, s.par⟩
  · have h1 : (A ++ B).Perm (C ++ (A ++ B')) := (List.Perm.append_left A p).trans (by
      rw [← List.append_assoc, ← List.append_assoc]
      exact List.Perm.append_right B' List.perm_append_comm)
    exact (List.nodup_append.mp (h1.nodup_iff.mp s.nd)).2.1
  · exact (List.mem_append.mp ha).elim (fun h => List.mem_append_left _ h) fun h => List.mem_append_right _ (sub a h)
  · exact (List.mem_append.mp ha).elim (fun h => List.mem_append_left _ h) fun h => List.mem_append_right _ (sub a h)
/-- other slots with (some of) the same places -/
theorem ZSx.slPerm {ρ' : Env} {σ' : Sl} {A' : List Addr} (s : ZSx m c ρ T σ tv H F A B) (r : RepE m F H σ' ρ' A') (p : ∃ C, A.Perm (C ++ A')) (hp : ∀ p ∈ c.par, σ'[p.1]? = some p.2) : ZSx m c ρ' T σ' tv H F A' B := by
  obtain ⟨C, p⟩ := p
  have sub : ∀ b ∈ A', b ∈ A := fun b hb => p.mem_iff.mpr (List.mem_append_right _ hb)
  refine ⟨s.sub, r, s.tm, ?_, fun a ha => s.nf a ?_, s.fin, s.fnw, fun a ha => s.own a ?_, s.keep, s.thr, hp⟩
  · have h1 : (A ++ B).Perm (C ++ (A' ++ B)) := by
      rw [← List.append_assoc]
      exact List.Perm.append_right B p
    exact (List.nodup_append.mp (h1.nodup_iff.mp s.nd)).2.1
  · exact (List.mem_append.mp ha).elim (fun h => List.mem_append_left _ (sub a h)) fun h => List.mem_append_right _ h
  · exact (List.mem_append.mp ha).elim (fun h => List.mem_append_left _ (sub a h)) fun h => List.mem_append_right _ h
theorem ZS.pop {d : D} {v : V} (s : ZS m c ρ (d :: T) σ (v :: tv) H) : ZS m c ρ T σ tv H := by
  obtain ⟨F, A, B, s⟩ := s
  cases id s.tm with
  | cons h r => exact ⟨F, A, _, s.tmPerm r ⟨_, List.Perm.refl _⟩⟩
/-- something frozen is held, too -/
theorem ZSx.pushF {d : D} {v : V} (s : ZSx m c ρ T σ tv H F A B) (r : Rep m F H v d []) : ZSx m c ρ (d :: T) σ (v :: tv) H F A B :=
  ⟨s.sub, s.sl, .cons (A := []) r s.tm, s.nd, s.nf, s.fin, s.fnw, s.own, s.keep, s.thr, s.par⟩
theorem ZS.pushA (a : At) (s : ZS m c ρ T σ tv H) : ZS m c ρ (.at a :: T) σ (a.v :: tv) H := by
  obtain ⟨F, A, B, s⟩ := s
  exact ⟨F, A, B, s.pushF (.at a)⟩
theorem ZS.cutT : ∀ {ds : List D} {vs : List V}, ZS m c ρ (ds ++ T) σ (vs ++ tv) H → ds.length = vs.length → ZS m c ρ T σ tv H
  | [], [], s, _ => s
  | _ :: _, _ :: _, s, h => ZS.cutT (ZS.pop s) (by simpa using h)
  | [], _ :: _, _, h => by simp at h
  | _ :: _, [], _, h => by simp at h
/-- forget a slot -/
theorem ZS.drop (i : Nat) (s : ZS m c ρ T σ tv H) : ZS m c (ρ.set i none) T σ tv H := by
  obtain ⟨F, A, B, s⟩ := s
  obtain ⟨A', r, p⟩ := s.sl.drop (i := i)
  exact ⟨F, A', B, s.slPerm r p s.par⟩
/-- the slot's thing goes to what is held -/
theorem ZS.move {i : Nat} {d : D} (s : ZS m c ρ T σ tv H) (e : ρ[i]? = some (some d)) : ∃ v, σ[i]? = some (some v) ∧ ZS m c (ρ.set i none) (d :: T) σ (v :: tv) H := by
  obtain ⟨F, A, B, s⟩ := s
  obtain ⟨v, A1, A2, h1, h2, h3, h4⟩ := s.sl.take e
  refine ⟨v, h1, F, A2, A1 ++ B, s.sub, h3, .cons h2 s.tm, ?_, ?_, s.fin, s.fnw, ?_, s.keep, s.thr, s.par⟩
  · have p : (A2 ++ (A1 ++ B)).Perm (A ++ B) := by
      rw [← List.append_assoc]
      exact List.Perm.append_right B (List.perm_append_comm.trans h4.symm)
    exact p.nodup_iff.mpr s.nd
  · intro a ha
    refine s.nf a ?_
    have p : (A2 ++ (A1 ++ B)).Perm (A ++ B) := by
      rw [← List.append_assoc]
      exact List.Perm.append_right B (List.perm_append_comm.trans h4.symm)
    exact p.mem_iff.mp ha
  · intro a ha
    refine s.own a ?_
    have p : (A2 ++ (A1 ++ B)).Perm (A ++ B) := by
      rw [← List.append_assoc]
      exact List.Perm.append_right B (List.perm_append_comm.trans h4.symm)
    exact p.mem_iff.mp ha
/-- what is held goes into a slot (the slot's value is set) -/
theorem ZS.store {i : Nat} {d : D} {v : V} (s : ZS m c ρ (d :: T) σ (v :: tv) H) (hi : i < ρ.length) (hp : ∀ p ∈ c.par, p.1 ≠ i) : ZS m c (ρ.set i (some d)) T (σ.set i (some v)) tv H := by
  obtain ⟨F, A, B, s⟩ := ZS.drop i s
  cases id s.tm with
  | cons h r =>
    rename_i B1 B2
    have e0 : (ρ.set i none)[i]? = some none := by simp [hi]
    have r1 := s.sl.setS (i := i) (x := some v) e0
    have hσ : i < σ.length := by
      have q := s.sl.length
      rw [List.length_set] at q
      omega
    obtain ⟨C, r2, p⟩ := r1.put e0 (by simp [hσ]) h
    rw [List.set_set] at r2
    have pp : (C ++ B2).Perm (A ++ (B1 ++ B2)) := by
      refine (List.Perm.append_right B2 p).trans ?_
      rw [← List.append_assoc]
      exact List.Perm.append_right B2 List.perm_append_comm
    refine ⟨F, C, B2, s.sub, r2, r, pp.nodup_iff.mpr s.nd, fun a ha => s.nf a (pp.mem_iff.mp ha), s.fin, s.fnw, fun a ha => s.own a (pp.mem_iff.mp ha), s.keep, s.thr, fun p hpp => ?_⟩
    rw [List.getElem?_set_ne (Ne.symm (hp p hpp))]
    exact s.par p hpp
/-- .. into the slot that has its value already -/
theorem ZS.restore {i : Nat} {d : D} {v : V} (s : ZS m c ρ (d :: T) σ (v :: tv) H) (e : ρ[i]? = some none) (hv : σ[i]? = some (some v)) : ZS m c (ρ.set i (some d)) T σ tv H := by
  obtain ⟨F, A, B, s⟩ := s
  cases id s.tm with
  | cons h r =>
    rename_i B1 B2
    obtain ⟨C, r2, p⟩ := s.sl.put e hv h
    have pp : (C ++ B2).Perm (A ++ (B1 ++ B2)) := by
      refine (List.Perm.append_right B2 p).trans ?_
      rw [← List.append_assoc]
      exact List.Perm.append_right B2 List.perm_append_comm
    exact ⟨F, C, B2, s.sub, r2, r, pp.nodup_iff.mpr s.nd, fun a ha => s.nf a (pp.mem_iff.mp ha), s.fin, s.fnw, fun a ha => s.own a (pp.mem_iff.mp ha), s.keep, s.thr, s.par⟩
/-- what is held is frozen -/
theorem ZS.freeze {d : D} {v : V} (s : ZS m c ρ (d :: T) σ (v :: tv) H) : ZS m c ρ (d.frz :: T) σ (v :: tv) H ∧ ZS m c ρ (d.frz :: d.frz :: T) σ (v :: v :: tv) H := by
  obtain ⟨F, A, B, s⟩ := s
  cases id s.tm with
  | cons h r =>
    rename_i B1 B2
    let F' : Hp := fun a => if a ∈ B1 then H a else F a
    have e1 : Same F F' := fun a o q => by
      have na : a ∉ B1 := fun z => by
        rw [s.nf a (List.mem_append_right _ (List.mem_append_left _ z))] at q; cases q
      show (if a ∈ B1 then H a else F a) = some o
      rw [if_neg na]; exact q
    have e2 : Same F' H := fun a o q => by
      have q : (if a ∈ B1 then H a else F a) = some o := q
      split at q
      · exact q
      · exact s.sub _ _ q
    have hf : ∀ b ∈ B1, F' b = H b := fun b hb => if_pos hb
    have nd3 : (A ++ B2).Nodup := by
      have p : (A ++ (B1 ++ B2)).Perm (B1 ++ (A ++ B2)) := by
        rw [← List.append_assoc, ← List.append_assoc]
        exact List.Perm.append_right B2 List.perm_append_comm
      exact (List.nodup_append.mp (p.nodup_iff.mp s.nd)).2.1
    have dj : ∀ a ∈ A ++ B2, a ∉ B1 := fun a ha hb => by
      have p : (A ++ (B1 ++ B2)).Perm (B1 ++ (A ++ B2)) := by
        rw [← List.append_assoc, ← List.append_assoc]
        exact List.Perm.append_right B2 List.perm_append_comm
      exact (List.nodup_append.mp (p.nodup_iff.mp s.nd)).2.2 a hb a ha rfl
    have up : ∀ a ∈ A ++ B2, a ∈ A ++ (B1 ++ B2) := fun a ha => (List.mem_append.mp ha).elim (fun z => List.mem_append_left _ z) fun z => List.mem_append_right _ (List.mem_append_right _ z)
    have hr : Rep m F' H v d.frz [] := h.freeze e1 hf
    have z0 : ZSx m c ρ T σ tv H F' A B2 := by
      refine ⟨e2, s.sl.mono e1 fun _ _ => rfl, r.mono e1 fun _ _ => rfl, nd3, fun a ha => ?_, s.fin.trans e1, fun a o q => ?_, fun a ha => s.own a (up a ha), s.keep, s.thr, s.par⟩
      · show (if a ∈ B1 then H a else F a) = none
        rw [if_neg (dj a ha)]
        exact s.nf a (up a ha)
      · have q : (if a ∈ B1 then H a else F a) = some o := q
        split at q
        · rename_i hb
          exact .inr (s.own a (List.mem_append_right _ (List.mem_append_left _ hb)))
        · exact s.fnw a o q
    exact ⟨⟨F', A, B2, z0.pushF hr⟩, ⟨F', A, B2, (z0.pushF hr).pushF hr⟩⟩
end
end Z

set_option Elab.async false
set_option linter.all false
set_option maxRecDepth 100000
set_option maxHeartbeats 4000000
/-! Z3: the judgements: an expression as a function on slots. -/
namespace Z
open PySem PySem.Spec PyProof.Rows L2

theorem peImp {X : Cx} {e : Expr} {t t' : TE} (h : PE X e t) (k : ∀ σ H Q, t' σ H Q → t σ H Q) : PE X e t' := ⟨fun pins s σ H Q I q => h.run pins s σ H Q I (k σ H Q q)⟩
theorem ptImp {X : Cx} {e : Expr} {t t' : TT} (h : PT X e t) (k : ∀ σ H Q, t' σ H Q → t σ H Q) : PT X e t' := ⟨fun pins s σ H Q I q => h.run pins s σ H Q I (k σ H Q q)⟩
theorem psImp {X : Cx} {e : Stmt} {t t' : TS} (h : PS X e t) (k : ∀ D σ H, t' D σ H → t D σ H) : PS X e t' := ⟨fun pins s σ H D I q => h.run pins s σ H D I (k D σ H q)⟩
theorem pssImp {X : Cx} {e : List Stmt} {t t' : TS} (h : PSs X e t) (k : ∀ D σ H, t' D σ H → t D σ H) : PSs X e t' := ⟨fun pins s σ H D I q => h.run pins s σ H D I (k D σ H q)⟩

/-- how an exception lies -/
def ExR (m : M) (Hb H : Hp) (cls : Value) (dx : Option Addr) (e : EX) : Prop :=
  ∃ C, m.mg e.cls = some (.ref C) ∧ cls = .ref C ∧ ((e.fs = [] ∧ dx = none) ∨ ∃ d, dx = some d ∧ H d = some (.xd (e.fs.map fun p => (p.1, p.2.v))) ∧ Hb d = none)
theorem ExR.base {m : M} {Hb Hb' H : Hp} {cls : Value} {dx : Option Addr} {e : EX} (h : ExR m Hb H cls dx e) (k : ∀ a, Hb a = none → Hb' a = none) : ExR m Hb' H cls dx e := by
  obtain ⟨C, h1, h2, h3⟩ := h
  exact ⟨C, h1, h2, h3.imp id fun ⟨d, h4, h5, h6⟩ => ⟨d, h4, h5, k d h6⟩⟩
def ZPost (m : M) (W : WX) (p : Bool) (c : Cz) (T : List D) (σ : Sl) (tv : List V) (H : Hp) (Q : VK) : R D → Prop
  | .ok d ρ' => ∀ v H', ZS m c ρ' (d :: T) σ (v :: tv) H' → (p = true → Same H H') → Q v H'
  | .ex e ρ' => ∀ cls dx H', ExR m c.H H' cls dx e → ZS m c ρ' T σ tv H' → W cls dx σ H'
  | .stuck => False
def tZ (m : M) (W : WX) (p : Bool) (f : EF) : TE := fun σ H Q => ∃ c ρ T tv, ZS m c ρ T σ tv H ∧ ZPost m W p c T σ tv H Q (f ρ)
abbrev ZE (X : Cx) (W : WX) (p : Bool) (e : Expr) (f : EF) : Prop := PE X e (tZ (mOf X) W p f)

inductive Opd where
  | v (f : EF)
  | p (i : Nat)
def evO : List Opd → Env → R (List (D ⊕ Nat))
  | [], ρ => .ok [] ρ
  | .v f :: os, ρ => (f ρ).bind fun d ρ1 => (evO os ρ1).bind fun r ρ2 => .ok (.inl d :: r) ρ2
  | .p i :: os, ρ => match ρ[i]? with
    | some (some _) => (evO os ρ).bind fun r ρ2 => .ok (.inr i :: r) ρ2
    | _ => .stuck
def fillO : List (D ⊕ Nat) → Env → Option (List D)
  | [], _ => some []
  | .inl d :: r, ρ => (fillO r ρ).map (d :: ·)
  | .inr i :: r, ρ => match ρ[i]? with
    | some (some d) => (fillO r ρ).map (d :: ·)
    | _ => none
def valsO : List (D ⊕ Nat) → List D
  | [] => []
  | .inl d :: r => d :: valsO r
  | .inr _ :: r => valsO r
def zOps (g : List D → Option D) (os : List Opd) : EF := fun ρ => (evO os ρ).bind fun r ρ' => match (fillO r ρ').bind g with
  | some d => .ok d ρ'
  | none => .stuck
inductive Pick (σ : Sl) : List V → List (D ⊕ Nat) → List V → Prop
  | nil : Pick σ [] [] []
  | val {v : V} {d : D} {vs tvs : List V} {r : List (D ⊕ Nat)} : Pick σ vs r tvs → Pick σ (v :: vs) (.inl d :: r) (v :: tvs)
  | slot {v : V} {i : Nat} {vs tvs : List V} {r : List (D ⊕ Nat)} : σ[i]? = some (some v) → Pick σ vs r tvs → Pick σ (v :: vs) (.inr i :: r) tvs
theorem Pick.length {σ : Sl} : ∀ {vs : List V} {r : List (D ⊕ Nat)} {tvs : List V}, Pick σ vs r tvs → (valsO r).length = tvs.length
  | _, _, _, .nil => rfl
  | _, _, _, .val h => by rw [valsO, List.length_cons, List.length_cons, h.length]
  | _, _, _, .slot _ h => by rw [valsO, h.length]
def tO (m : M) (W : WX) (p : Bool) : Opd → TE
  | .v f => tZ m W p f
  | .p i => tVar i
def tOs (m : M) (W : WX) : List (Bool × Opd) → TA
  | [] => tNil
  | o :: os => tCons (tO m W o.1 o.2) (tOs m W os)
abbrev ZO (X : Cx) (W : WX) (p : Bool) (e : Expr) (o : Opd) : Prop := PE X e (tO (mOf X) W p o)
abbrev ZOs (X : Cx) (W : WX) (es : List Expr) (pos : List (Bool × Opd)) : Prop := PA X es (tOs (mOf X) W pos)

section
variable {m : M} {c : Cz} {ρ : Env} {T : List D} {σ : Sl} {tv : List V} {H F : Hp} {A B : List Addr} {W : WX}
theorem Reps.rot : ∀ {ds : List D} {vs : List V} {d : D} {v : V} {A : List Addr}, ds.length = vs.length → Reps m F H (vs ++ v :: tv) (ds ++ d :: T) A → ∃ B, Reps m F H (v :: (vs ++ tv)) (d :: (ds ++ T)) B ∧ A.Perm B
  | [], [], _, _, A, _, r => ⟨A, r, List.Perm.refl _⟩
  | _ :: ds, _ :: vs, d, v, _, h, .cons (A := A1) h1 r => by
    obtain ⟨B, r2, p⟩ := Reps.rot (by simpa using h) r
    obtain ⟨C, r3, p3⟩ := Reps.perm2 (.cons h1 r2)
    exact ⟨C, r3, (List.Perm.append_left A1 p).trans p3⟩
  | [], _ :: _, _, _, _, h, _ => by simp at h
  | _ :: _, [], _, _, _, h, _ => by simp at h
theorem ZS.rot {ds : List D} {vs : List V} {d : D} {v : V} (s : ZS m c ρ (ds ++ d :: T) σ (vs ++ v :: tv) H) (h : ds.length = vs.length) : ZS m c ρ (d :: (ds ++ T)) σ (v :: (vs ++ tv)) H := by
  obtain ⟨F, A, B, s⟩ := s
  obtain ⟨C, r, p⟩ := Reps.rot h s.tm
  exact ⟨F, A, C, s.tmPerm r ⟨[], by simpa using p⟩⟩
theorem Reps.mid : ∀ {ds : List D} {vs : List V} {A : List Addr}, ds.length = vs.length → Reps m F H (vs ++ tv) (ds ++ T) A → ∃ B C, Reps m F H vs ds B ∧ Reps m F H tv T C ∧ A = B ++ C
  | [], [], A, _, r => ⟨[], A, .nil, r, rfl⟩
  | _ :: ds, _ :: vs, _, h, .cons (A := A1) h1 r => by
    obtain ⟨B, C, r1, r2, rfl⟩ := Reps.mid (by simpa using h) r
    exact ⟨A1 ++ B, C, .cons h1 r1, r2, (List.append_assoc _ _ _).symm⟩
  | [], _ :: _, _, h, _ => by simp at h
  | _ :: _, [], _, h, _ => by simp at h
/-- what lies below the top is let go -/
theorem ZS.under {ds : List D} {vs : List V} {d : D} {v : V} (s : ZS m c ρ (d :: (ds ++ T)) σ (v :: (vs ++ tv)) H) (h : ds.length = vs.length) : ZS m c ρ (d :: T) σ (v :: tv) H := by
  obtain ⟨F, A, B, s⟩ := s
  cases id s.tm with
  | cons h1 r =>
    rename_i B1 B2
    obtain ⟨C1, C2, r1, r2, rfl⟩ := Reps.mid h r
    refine ⟨F, A, B1 ++ C2, s.tmPerm (.cons h1 r2) ⟨C1, ?_⟩⟩
    rw [← List.append_assoc, ← List.append_assoc]
    exact List.Perm.append_right C2 List.perm_append_comm

theorem ZS.slot {i : Nat} {d : D} (s : ZS m c ρ T σ tv H) (e : ρ[i]? = some (some d)) : ∃ v, σ[i]? = some (some v) := by
  obtain ⟨F, A, B, s⟩ := s
  obtain ⟨v, _, _, h, _⟩ := s.sl.take e
  exact ⟨v, h⟩
def OPost (m : M) (W : WX) (p : Bool) (c : Cz) (T : List D) (σ : Sl) (tv : List V) (H : Hp) (Q : List V → Hp → Prop) : R (List (D ⊕ Nat)) → Prop
  | .ok r ρ' => ∀ vs tvs H', Pick σ vs r tvs → ZS m c ρ' (valsO r ++ T) σ (tvs ++ tv) H' → (p = true → Same H H') → Q vs H'
  | .ex e ρ' => ∀ cls dx H', ExR m c.H H' cls dx e → ZS m c ρ' T σ tv H' → W cls dx σ H'
  | .stuck => False
theorem tOs_run : ∀ {pos : List (Bool × Opd)} {ρ : Env} {T : List D} {tv : List V} {H : Hp} {Q : List V → Hp → Prop}, ZS m c ρ T σ tv H → OPost m W (pos.all (·.1)) c T σ tv H Q (evO (pos.map (·.2)) ρ) → tOs m W pos σ H Q
  | [], ρ, T, tv, H, Q, s, h => h [] [] H .nil s fun _ => Same.refl _
  | (p, .v f) :: pos, ρ, T, tv, H, Q, s, h => by
    refine ⟨c, ρ, T, tv, s, ?_⟩
    rw [List.map_cons, evO] at h
    cases e : f ρ with
    | stuck => rw [e] at h; exact h
    | ex x ρ1 => rw [e] at h; exact h
    | ok d ρ1 =>
      rw [e] at h
      intro v H1 s1 k1
      refine tOs_run s1 ?_
      have h : OPost m W (((p, Opd.v f) :: pos).all (·.1)) c T σ tv H Q ((evO (pos.map (·.2)) ρ1).bind fun r ρ2 => .ok (.inl d :: r) ρ2) := h
      cases e2 : evO (pos.map (·.2)) ρ1 with
      | stuck => rw [e2] at h; exact h
      | ex x ρ2 =>
        rw [e2] at h
        exact fun cls dx H' q s' => h cls dx H' q s'.pop
      | ok r ρ2 =>
        rw [e2] at h
        intro vs tvs H2 pk s2 k2
        refine h (v :: vs) (v :: tvs) H2 (.val pk) (s2.rot pk.length) fun z => ?_
        rw [List.all_cons, Bool.and_eq_true] at z
        exact (k1 z.1).trans (k2 z.2)
  | (p, .p i) :: pos, ρ, T, tv, H, Q, s, h => by
    rw [List.map_cons, evO] at h
    split at h
    · rename_i d e
      obtain ⟨v, hv⟩ := s.slot e
      refine ⟨v, hv, tOs_run s ?_⟩
      cases e2 : evO (pos.map (·.2)) ρ with
      | stuck => rw [e2] at h; exact h
      | ex x ρ2 => rw [e2] at h; exact h
      | ok r ρ2 =>
        rw [e2] at h
        intro vs tvs H2 pk s2 k2
        refine h (v :: vs) tvs H2 (.slot hv pk) s2 fun z => ?_
        rw [List.all_cons, Bool.and_eq_true] at z
        exact k2 z.2
    · exact h.elim
/-- the operands' data -/
theorem pick_reps {ρ : Env} (r : RepE m F H σ ρ A) : ∀ {vs : List V} {q : List (D ⊕ Nat)} {tvs : List V} {ds : List D} {B : List Addr}, Pick σ vs q tvs → Reps m F H tvs (valsO q) B → fillO q ρ = some ds → ∃ A', Reps m F H vs ds A'
  | _, _, _, _, _, .nil, _, h => by
    rw [fillO] at h; cases h
    exact ⟨[], .nil⟩
  | _, _, _, _, _, .val pk, .cons h1 r1, h => by
    rw [fillO] at h
    obtain ⟨ds', h2, rfl⟩ := Option.map_eq_some_iff.mp h
    obtain ⟨A', r2⟩ := pick_reps r pk r1 h2
    exact ⟨_, .cons h1 r2⟩
  | _, _, _, _, _, .slot (i := i) hv pk, r1, h => by
    rw [fillO] at h
    split at h
    · rename_i d e
      obtain ⟨ds', h2, rfl⟩ := Option.map_eq_some_iff.mp h
      obtain ⟨A', r2⟩ := pick_reps r pk r1 h2
      obtain ⟨v', B1, C1, e1, e2, _⟩ := r.take e
      rw [hv] at e1; cases e1
      exact ⟨_, .cons e2 r2⟩
    · cases h
/-- a rule by values that only reads, and its function on data -/
def LR (m : M) (r : List V → Hp → VK → Prop) (g : List D → Option D) : Prop := ∀ (F H : Hp) (vs : List V) (ds : List D) (A : List Addr) (d : D) (Q : VK), Same F H → Reps m F H vs ds A → g ds = some d → Yl m F H d Q → r vs H Q
theorem ops_run {r : List V → Hp → VK → Prop} {g : List D → Option D} (lr : LR m r g) {pos : List (Bool × Opd)} {Q : VK} (s : ZS m c ρ T σ tv H) (h : ZPost m W (pos.all (·.1)) c T σ tv H Q (zOps g (pos.map (·.2)) ρ)) :
    tOs m W pos σ H (fun vs H' => r vs H' Q) := by
  refine tOs_run s ?_
  unfold zOps at h
  cases e : evO (pos.map (·.2)) ρ with
  | stuck => rw [e] at h; exact h
  | ex x ρ1 => rw [e] at h; exact h
  | ok q ρ1 =>
    rw [e] at h
    intro vs tvs H1 pk s1 k1
    have h : ZPost m W (pos.all (·.1)) c T σ tv H Q (match (fillO q ρ1).bind g with
      | some d => R.ok d ρ1
      | none => R.stuck) := h
    cases e2 : fillO q ρ1 with
    | none => rw [e2] at h; exact h.elim
    | some ds =>
      rw [e2, Option.bind_some] at h
      cases e3 : g ds with
      | none => rw [e3] at h; exact h.elim
      | some d =>
        rw [e3] at h
        have s0 := s1
        obtain ⟨F, A, B, s2⟩ := s1
        obtain ⟨B1, B2, r1, r2, rfl⟩ := Reps.mid pk.length s2.tm
        obtain ⟨A', r3⟩ := pick_reps s2.sl pk r1 e2
        exact lr F H1 vs ds A' d Q s2.sub r3 e3 (s2.yield fun v H' s' k' => h v H' (s'.under pk.length) fun z => (k1 z).trans k')
end

/-! ### names and constants -/
def eVar (i : Nat) : EF := fun ρ => match ρ[i]? with
  | some (some d) => .ok d.frz (ρ.set i (some d.frz))
  | _ => .stuck
def eMove (i : Nat) : EF := fun ρ => match ρ[i]? with
  | some (some d) => .ok d (ρ.set i none)
  | _ => .stuck
def eC (d : D) : EF := fun ρ => .ok d ρ
section
variable {X : Cx} {W : WX} {pos : Pos}
theorem getNone {ρ : Env} {i : Nat} {d : D} (e : ρ[i]? = some (some d)) : (ρ.set i none)[i]? = some none := by
  obtain ⟨h, _⟩ := List.getElem?_eq_some_iff.mp e
  simp [h]
theorem ze_var {e : Expr} {i : Nat} (h : PE X e (tVar i)) : ZE X W true e (eVar i) := by
  refine peImp h fun σ H Q ⟨c, ρ, T, tv, s, q⟩ => ?_
  unfold eVar at q
  split at q
  · rename_i d ed
    obtain ⟨v, hv, s1⟩ := s.move ed
    refine ⟨v, hv, q v H ?_ fun _ => Same.refl _⟩
    have s2 := (s1.freeze.2).restore (getNone ed) hv
    rw [List.set_set] at s2
    exact s2
  · exact q.elim
theorem ze_move {e : Expr} {i : Nat} (h : PE X e (tVar i)) : ZE X W true e (eMove i) := by
  refine peImp h fun σ H Q ⟨c, ρ, T, tv, s, q⟩ => ?_
  unfold eMove at q
  split at q
  · rename_i d ed
    obtain ⟨v, hv, s1⟩ := s.move ed
    exact ⟨v, hv, q v H s1 fun _ => Same.refl _⟩
  · exact q.elim
theorem zo_slot {e : Expr} {i : Nat} (h : PE X e (tVar i)) : ZO X W true e (.p i) := h
theorem zo_val {e : Expr} {f : EF} {p : Bool} (h : ZE X W p e f) : ZO X W p e (.v f) := h
theorem zos_nil : ZOs X W [] [] := pa_nil
theorem zos_cons {e : Expr} {es : List Expr} {p : Bool} {o : Opd} {pos : List (Bool × Opd)} (h : ZO X W p e o) (r : ZOs X W es pos) (hs : starEach (e :: es) X.env = (false, eval e X.env) :: starEach es X.env := by rfl) : ZOs X W (e :: es) ((p, o) :: pos) := pa_cons h r hs
theorem ze_at {e : Expr} {a : At} (h : PE X e (tC a.v)) : ZE X W true e (eC (.at a)) := by
  refine peImp h fun σ H Q ⟨c, ρ, T, tv, s, q⟩ => ?_
  exact q a.v H (s.pushA a) fun _ => Same.refl _
theorem ze_int {i : Int} {j : Nat} : ZE X W true (.Constant (.int i) j pos) (eC (.at (.int i))) := ze_at (a := .int i) pe_int
theorem ze_bl {b : Bool} {j : Nat} : ZE X W true (.Constant (.bool b) j pos) (eC (.at (.bl b))) := ze_at (a := .bl b) pe_bl
theorem ze_non {j : Nat} : ZE X W true (.Constant .none j pos) (eC (.at .non)) := ze_at (a := .non) pe_non
theorem ze_str {x : Str} {j : Nat} : ZE X W true (.Constant (.str x) j pos) (eC (.at (.str x))) := ze_at (a := .str x) pe_str
/-- a constant of the module -/
theorem ze_con {e : Expr} {v : V} {d : D} (h : PE X e (tC v)) (r : ∀ F H : Hp, Rep (mOf X) F H v d []) : ZE X W true e (eC d) := by
  refine peImp h fun σ H Q ⟨c, ρ, T, tv, s, q⟩ => ?_
  obtain ⟨F, A, B, s⟩ := s
  exact q v H ⟨F, A, B, s.pushF (r F H)⟩ fun _ => Same.refl _
end

/-! ### new objects -/
def evL : List EF → Env → R (List D)
  | [], ρ => .ok [] ρ
  | f :: fs, ρ => (f ρ).bind fun d ρ1 => (evL fs ρ1).bind fun ds ρ2 => .ok (d :: ds) ρ2
theorem evO_map : ∀ (fs : List EF) (ρ : Env), evO (fs.map Opd.v) ρ = (evL fs ρ).bind fun ds ρ' => .ok (ds.map Sum.inl) ρ'
  | [], ρ => rfl
  | f :: fs, ρ => by
    rw [List.map_cons, evO, evL]
    cases f ρ with
    | stuck => rfl
    | ex x ρ1 => rfl
    | ok d ρ1 =>
      show ((evO (fs.map Opd.v) ρ1).bind fun r ρ2 => R.ok (Sum.inl d :: r) ρ2) = ((evL fs ρ1).bind fun ds ρ2 => R.ok (d :: ds) ρ2).bind fun ds ρ' => R.ok (ds.map Sum.inl) ρ'
      rw [evO_map fs ρ1]
      cases evL fs ρ1 with
      | stuck => rfl
      | ex x ρ2 => rfl
      | ok ds ρ2 => rfl
theorem valsO_map : ∀ ds : List D, valsO (ds.map Sum.inl) = ds
  | [] => rfl
  | d :: ds => by rw [List.map_cons, valsO, valsO_map ds]
theorem pick_map {σ : Sl} : ∀ {ds : List D} {vs tvs : List V}, Pick σ vs (ds.map Sum.inl) tvs → vs = tvs
  | [], _, _, h => by
    cases h; rfl
  | d :: ds, _, _, h => by
    cases h with
    | val h => rw [pick_map h]
def zNew (k : Kd) (fs : List EF) : EF := fun ρ => (evL fs ρ).bind fun ds ρ' => if ds.length ≤ sizeLine then .ok (.nd k ds) ρ' else .stuck
def LPost (m : M) (W : WX) (p : Bool) (c : Cz) (T : List D) (σ : Sl) (tv : List V) (H : Hp) (Q : List V → Hp → Prop) : R (List D) → Prop
  | .ok ds ρ' => ∀ vs H', ZS m c ρ' (ds ++ T) σ (vs ++ tv) H' → ds.length = vs.length → (p = true → Same H H') → Q vs H'
  | .ex e ρ' => ∀ cls dx H', ExR m c.H H' cls dx e → ZS m c ρ' T σ tv H' → W cls dx σ H'
  | .stuck => False
section
variable {m : M} {c : Cz} {ρ : Env} {T : List D} {σ : Sl} {tv : List V} {H F : Hp} {A B : List Addr} {W : WX}
theorem tLs_run {pos : List (Bool × Opd)} {fs : List EF} {Q : List V → Hp → Prop} (e : pos.map (·.2) = fs.map Opd.v) (s : ZS m c ρ T σ tv H) (h : LPost m W (pos.all (·.1)) c T σ tv H Q (evL fs ρ)) : tOs m W pos σ H Q := by
  refine tOs_run s ?_
  rw [e, evO_map]
  cases e2 : evL fs ρ with
  | stuck => rw [e2] at h; exact h
  | ex x ρ1 => rw [e2] at h; exact h
  | ok ds ρ1 =>
    rw [e2] at h
    intro vs tvs H1 pk s1 k1
    have e3 := pick_map pk
    subst e3
    have e4 := pk.length
    rw [valsO_map] at s1 e4
    exact h vs H1 s1 e4 k1
theorem updSame {H : Hp} {p : Addr} {o : HO} (h : H p = none) : Same H (upd H p o) := fun b x e => by
  rw [upd_ne (ne_of_none e h)]
  exact e
/-- a new object that nobody else knows is owned -/
theorem ZS.newO {k : Kd} {ds : List D} {vs : List V} {p : Addr} {o : HO} (s : ZS m c ρ (ds ++ T) σ (vs ++ tv) H) (hl : ds.length = vs.length) (hp : H p = none) (hk : k.own = true) (ho : ∀ F, ObjO m F (upd H p o) k p vs []) :
    ZS m c ρ (.nd k ds :: T) σ (.ref p :: tv) (upd H p o) := by
  obtain ⟨F, A, B, s⟩ := s
  obtain ⟨B1, B2, r1, r2, rfl⟩ := Reps.mid hl s.tm
  have ne : ∀ b ∈ A ++ (B1 ++ B2), b ≠ p := fun b hb e => by
    obtain ⟨x, hx⟩ : ∃ o, H b = some o := (List.mem_append.mp hb).elim (s.sl.there b) (s.tm.there b)
    rw [e, hp] at hx; cases hx
  have k1 : ∀ b ∈ A ++ (B1 ++ B2), (upd H p o) b = H b := fun b hb => upd_ne (ne b hb)
  have pp : (A ++ (p :: ([] ++ B1) ++ B2)).Perm (p :: (A ++ (B1 ++ B2))) := by
    show (A ++ (p :: (B1 ++ B2))).Perm _
    exact List.perm_middle
  refine ⟨F, A, (p :: ([] ++ B1)) ++ B2, (s.sub.trans (updSame hp)), s.sl.mono (Same.refl _) fun b hb => k1 b (List.mem_append_left _ hb),
    .cons (.ow hk (ho F) (r1.mono (Same.refl _) fun b hb => k1 b (List.mem_append_right _ (List.mem_append_left _ hb)))) (r2.mono (Same.refl _) fun b hb => k1 b (List.mem_append_right _ (List.mem_append_right _ hb))),
    ?_, fun a ha => ?_, s.fin, s.fnw, fun a ha => ?_, fun a x h1 h2 => updSame hp _ _ (s.keep a x h1 h2), fun a h => s.thr a ((updSame hp).free h), s.par⟩
  · rw [pp.nodup_iff, List.nodup_cons]
    exact ⟨fun z => ne p z rfl, s.nd⟩
  · rcases List.mem_cons.mp (pp.mem_iff.mp ha) with rfl | h
    · cases q : F a with
      | none => rfl
      | some x => rw [s.sub _ _ q] at hp; cases hp
    · exact s.nf a h
  · rcases List.mem_cons.mp (pp.mem_iff.mp ha) with rfl | h
    · exact .inr (s.thr a hp)
    · exact s.own a h
/-- a new tuple -/
theorem ZS.newT {ds : List D} {vs : List V} {p : Addr} (s : ZS m c ρ (ds ++ T) σ (vs ++ tv) H) (hl : ds.length = vs.length) (hp : H p = none) : ZS m c ρ (.nd .tup ds :: T) σ (.ref p :: tv) (upd H p (.tup vs)) := by
  obtain ⟨F, A, B, s⟩ := s
  obtain ⟨B1, B2, r1, r2, rfl⟩ := Reps.mid hl s.tm
  have fp : F p = none := by
    cases q : F p with
    | none => rfl
    | some x => rw [s.sub _ _ q] at hp; cases hp
  have ne : ∀ b ∈ A ++ (B1 ++ B2), b ≠ p := fun b hb e => by
    obtain ⟨x, hx⟩ : ∃ o, H b = some o := (List.mem_append.mp hb).elim (s.sl.there b) (s.tm.there b)
    rw [e, hp] at hx; cases hx
  have k1 : ∀ b ∈ A ++ (B1 ++ B2), (upd H p (.tup vs)) b = H b := fun b hb => upd_ne (ne b hb)
  have e1 : Same F (upd F p (.tup vs)) := updSame fp
  refine ⟨upd F p (.tup vs), A, B1 ++ B2, fun a x q => ?_, s.sl.mono e1 fun b hb => k1 b (List.mem_append_left _ hb),
    .cons (.fz rfl (SqT.of upd_same) (r1.mono e1 fun b hb => k1 b (List.mem_append_right _ (List.mem_append_left _ hb))) (.inl ⟨rfl, .inl upd_same⟩)) (r2.mono e1 fun b hb => k1 b (List.mem_append_right _ (List.mem_append_right _ hb))),
    s.nd, fun a ha => ?_, s.fin.trans e1, fun a x q => ?_, s.own, fun a x h1 h2 => updSame hp _ _ (s.keep a x h1 h2), fun a h => s.thr a ((updSame hp).free h), s.par⟩
  · by_cases e : a = p
    · subst e; rw [upd_same] at q ⊢; exact q
    · rw [upd_ne e] at q ⊢; exact s.sub _ _ q
  · rw [upd_ne (ne a ha)]; exact s.nf a ha
  · by_cases e : a = p
    · subst e; exact .inr (.inr (s.thr a hp))
    · rw [upd_ne e] at q; exact s.fnw a x q
end
section
variable {X : Cx} {W : WX} {pos : Pos} {es : List Expr} {ps : List (Bool × Opd)} {fs : List EF}
theorem ze_tup {x1 : Nat} (h : ZOs X W es ps) (e : ps.map (·.2) = fs.map Opd.v := by rfl) : ZE X W (ps.all (·.1)) (.Tuple es x1 pos) (zNew .tup fs) := by
  refine peImp (pe_tup h) fun σ H Q ⟨c, ρ, T, tv, s, q⟩ => ?_
  refine tLs_run e s ?_
  unfold zNew at q
  cases e2 : evL fs ρ with
  | stuck => rw [e2] at q; exact q
  | ex x ρ1 => rw [e2] at q; exact q
  | ok ds ρ1 =>
    rw [e2] at q
    have q : ZPost (mOf X) W (ps.all (·.1)) c T σ tv H Q (if ds.length ≤ sizeLine then R.ok (.nd .tup ds) ρ1 else R.stuck) := q
    intro vs H1 s1 hl k1
    split at q
    · rename_i hz
      exact ⟨by rw [← hl]; exact hz, fun p hp => q _ _ (s1.newT hl hp) fun z => (k1 z).trans (updSame hp)⟩
    · exact q.elim
theorem ze_lst (h : ZOs X W es ps) (e : ps.map (·.2) = fs.map Opd.v := by rfl) : ZE X W (ps.all (·.1)) (.List es pos) (zNew (.lst true) fs) := by
  refine peImp (pe_lst h) fun σ H Q ⟨c, ρ, T, tv, s, q⟩ => ?_
  refine tLs_run e s ?_
  unfold zNew at q
  cases e2 : evL fs ρ with
  | stuck => rw [e2] at q; exact q
  | ex x ρ1 => rw [e2] at q; exact q
  | ok ds ρ1 =>
    rw [e2] at q
    have q : ZPost (mOf X) W (ps.all (·.1)) c T σ tv H Q (if ds.length ≤ sizeLine then R.ok (.nd (.lst true) ds) ρ1 else R.stuck) := q
    intro vs H1 s1 hl k1
    split at q
    · rename_i hz
      exact ⟨by rw [← hl]; exact hz, fun p hp => q _ _ (s1.newO hl hp rfl fun F => ⟨rfl, upd_same⟩) fun z => (k1 z).trans (updSame hp)⟩
    · exact q.elim
end
end Z

set_option Elab.async false
set_option linter.all false
set_option maxRecDepth 100000
set_option maxHeartbeats 4000000
/-! Z4: rules by values that only read: operators, comparisons, built-ins. -/
namespace Z
open PySem PySem.Spec PyProof.Rows L2

section
variable {m : M} {F H : Hp}
theorem reps1 {vs : List V} {d1 : D} {A : List Addr} (r : Reps m F H vs [d1] A) : ∃ x, vs = [x] ∧ ∃ A1, Rep m F H x d1 A1 := by
  cases r with
  | cons h r => cases r; exact ⟨_, rfl, _, h⟩
theorem reps2 {vs : List V} {d1 d2 : D} {A : List Addr} (r : Reps m F H vs [d1, d2] A) : ∃ x y, vs = [x, y] ∧ (∃ A1, Rep m F H x d1 A1) ∧ ∃ A2, Rep m F H y d2 A2 := by
  cases r with
  | cons h r =>
    obtain ⟨y, rfl, q⟩ := reps1 r
    exact ⟨_, y, rfl, ⟨_, h⟩, q⟩
theorem rep_at {v : V} {a : At} {A : List Addr} (r : Rep m F H v (.at a) A) : v = a.v := by cases r; rfl
theorem rep_lst {v : V} {o : Bool} {xs : List D} {A : List Addr} (r : Rep m F H v (.nd (.lst o) xs) A) (s : Same F H) : ∃ a vs B, v = .ref a ∧ H a = some (.lst vs) ∧ Reps m F H vs xs B := by
  cases r with
  | fz h1 h2 h3 h4 => exact ⟨_, _, _, rfl, s _ _ h2, h3⟩
  | ow h1 h2 h3 => exact ⟨_, _, _, rfl, h2.2, h3⟩
theorem rep_tup {v : V} {xs : List D} {A : List Addr} (r : Rep m F H v (.nd .tup xs) A) : ∃ a vs B, v = .ref a ∧ SqT m.K F a vs ∧ Reps m F H vs xs B := by
  cases r with
  | fz h1 h2 h3 h4 => exact ⟨_, _, _, rfl, h2, h3⟩
  | ow h1 h2 h3 => exact h2.elim
theorem rep_scr {v : V} {xs : List D} {A : List Addr} (r : Rep m F H v (.nd .scr xs) A) : ∃ a vs B, v = .ref a ∧ SqL m.K F a vs ∧ Reps m F H vs xs B := by
  cases r with
  | fz h1 h2 h3 h4 => exact ⟨_, _, _, rfl, h2, h3⟩
  | ow h1 h2 h3 => exact h2.elim
theorem rep_dw {v : V} {ks : List Str} {xs : List D} {A : List Addr} (r : Rep m F H v (.nd (.dw ks) xs) A) : ∃ a vs B, v = .ref a ∧ DwAt m a ks vs ∧ Reps m F H vs xs B := by
  cases r with
  | fz h1 h2 h3 h4 => exact ⟨_, _, _, rfl, h2, h3⟩
  | ow h1 h2 h3 => exact h2.elim
theorem rep_dk {v : V} {o : Bool} {ks : List Key} {xs : List D} {A : List Addr} (r : Rep m F H v (.nd (.dk o ks) xs) A) (s : Same F H) : ∃ a vs B, v = .ref a ∧ DkAt H a ks vs ∧ Reps m F H vs xs B := by
  cases r with
  | fz h1 h2 h3 h4 => exact ⟨_, _, _, rfl, ⟨h2.1, h2.2.1, s _ _ h2.2.2⟩, h3⟩
  | ow h1 h2 h3 => exact ⟨_, _, _, rfl, h2.2, h3⟩
theorem rep_dn {v : V} {o : Bool} {ks : List NestedKey} {xs : List D} {A : List Addr} (r : Rep m F H v (.nd (.dn o ks) xs) A) (s : Same F H) : ∃ a vs B, v = .ref a ∧ DnAt m H H a ks vs ∧ Reps m F H vs xs B := by
  cases r with
  | fz h1 h2 h3 h4 => exact ⟨_, _, _, rfl, h2.monoS s, h3⟩
  | ow h1 h2 h3 => exact ⟨_, _, _, rfl, h2.2.mono s rfl, h3⟩
end

/-! ### as the library's data -/
mutual
def D.py : D → PyData
  | .at .non => .none
  | .at (.bl b) => .bool b
  | .at (.int i) => .int i
  | .at (.str x) => .str x
  | .nd .tup xs => .tuple (pyL xs)
  | .nd (.lst _) xs => .list (pyL xs)
  | .nd _ _ => .dict []
def pyL : List D → List PyData
  | [] => []
  | x :: xs => x.py :: pyL xs
end
mutual
def D.plain : D → Bool
  | .at _ => true
  | .nd .tup xs => plainL xs
  | .nd (.lst _) xs => plainL xs
  | .nd _ _ => false
def plainL : List D → Bool
  | [] => true
  | x :: xs => x.plain && plainL xs
end
theorem plainL_all : ∀ xs : List D, plainL xs = xs.all D.plain
  | [] => rfl
  | x :: xs => by rw [plainL, List.all_cons, plainL_all xs]
section
variable {m : M} {F H : Hp}
mutual
theorem Rep.dp (s : Same F H) : ∀ {v : V} {d : D} {A : List Addr}, Rep m F H v d A → d.plain = true → Dp m.K H v d.py
  | _, _, _, .at .non, _ => .non
  | _, _, _, .at (.bl b), _ => .bl b
  | _, _, _, .at (.int i), _ => .int i
  | _, _, _, .at (.str x), _ => .str x
  | _, _, _, .fz (k := .tup) h1 h2 h3 h4, p => by
    rw [D.plain] at p
    rw [D.py]
    exact .tup (Same.sqT s h2) (Reps.dp s h3 p)
  | _, _, _, .fz (k := .lst o) h1 h2 h3 h4, p => by
    rw [D.plain] at p
    rw [D.py]
    exact .lst (SqL.of (s _ _ h2)) (Reps.dp s h3 p)
  | _, _, _, .fz (k := .scr) h1 h2 h3 h4, p => by simp [D.plain] at p
  | _, _, _, .fz (k := .tpn) h1 h2 h3 h4, p => by simp [D.plain] at p
  | _, _, _, .fz (k := .dw _) h1 h2 h3 h4, p => by simp [D.plain] at p
  | _, _, _, .fz (k := .dk _ _) h1 h2 h3 h4, p => by simp [D.plain] at p
  | _, _, _, .fz (k := .dn _ _) h1 h2 h3 h4, p => by simp [D.plain] at p
  | _, _, _, .fz (k := .ins _ _ _) h1 h2 h3 h4, p => by simp [D.plain] at p
  | _, _, _, .fz (k := .dl _ _) h1 h2 h3 h4, p => by simp [D.plain] at p
  | _, _, _, .ow (k := .lst o) h1 h2 h3, p => by
    rw [D.plain] at p
    rw [D.py]
    exact .lst (SqL.of h2.2) (Reps.dp s h3 p)
  | _, _, _, .ow (k := .tup) h1 h2 h3, p => h2.elim
  | _, _, _, .ow (k := .scr) h1 h2 h3, p => h2.elim
  | _, _, _, .ow (k := .tpn) h1 h2 h3, p => h2.elim
  | _, _, _, .ow (k := .dw _) h1 h2 h3, p => h2.elim
  | _, _, _, .ow (k := .dk _ _) h1 h2 h3, p => by simp [D.plain] at p
  | _, _, _, .ow (k := .dn _ _) h1 h2 h3, p => by simp [D.plain] at p
  | _, _, _, .ow (k := .ins _ _ _) h1 h2 h3, p => by simp [D.plain] at p
  | _, _, _, .ow (k := .dl _ _) h1 h2 h3, p => by simp [D.plain] at p
theorem Reps.dp (s : Same F H) : ∀ {vs : List V} {ds : List D} {A : List Addr}, Reps m F H vs ds A → plainL ds = true → DpAll m.K H vs (pyL ds)
  | _, _, _, .nil, _ => .nil
  | _, _, _, .cons h r, p => by
    rw [plainL, Bool.and_eq_true] at p
    rw [pyL]
    exact .cons (Rep.dp s h p.1) (Reps.dp s r p.2)
end
end

/-! ### how rules by values are used -/
def lift2 (r : R2) : List V → Hp → VK → Prop
  | [x, y], H, Q => r x y H Q
  | _, _, _ => True
def lift1 (r : V → Hp → VK → Prop) : List V → Hp → VK → Prop
  | [x], H, Q => r x H Q
  | _, _, _ => True
section
variable {X : Cx} {W : WX} {pos : Pos} {p1 p2 p3 : Bool} {o1 o2 o3 : Opd} {a b e : Expr} {es : List Expr} {ps : List (Bool × Opd)} {g : List D → Option D}
theorem ze_bin {op : Operator} {r : R2} (ho : OpR X (binaryOp op) r) (lr : LR (mOf X) (lift2 r) g) (ha : ZO X W p1 a o1) (hb : ZO X W p2 b o2) : ZE X W (p1 && (p2 && true)) (.BinOp a op b pos) (zOps g [o1, o2]) :=
  peImp (pe_op ho ha hb) fun σ H Q ⟨c, ρ, T, tv, s, q⟩ => ops_run (pos := [(p1, o1), (p2, o2)]) lr s q
theorem ze_un {op : UnaryOp} {r : V → Hp → VK → Prop} (ho : UnR X (unaryOp op) r) (lr : LR (mOf X) (lift1 r) g) (ha : ZO X W p1 a o1) : ZE X W (p1 && true) (.UnaryOp op a pos) (zOps g [o1]) :=
  peImp (pe_un ho ha) fun σ H Q ⟨c, ρ, T, tv, s, q⟩ => ops_run (pos := [(p1, o1)]) lr s q
theorem ze_cmp {op : CmpOp} {r : R2} (ho : OpR X (compareOp op) r) (lr : LR (mOf X) (lift2 r) g) (ha : ZO X W p1 a o1) (hb : ZO X W p2 b o2) (hm : behindInMarks op b = false) : ZE X W (p1 && (p2 && true)) (.Compare a [op] [b] pos) (zOps g [o1, o2]) :=
  peImp (pe_cmpR ho ha hb hm) fun σ H Q ⟨c, ρ, T, tv, s, q⟩ => ops_run (pos := [(p1, o1), (p2, o2)]) lr s q
theorem ze_callB {x : Str} {p : Pos} {id : String} {r : List V → Hp → VK → Prop} (hc : CallR X (.builtin id) r) (lr : LR (mOf X) r g) (hg : Gl X x) (hm : X.mg x = none) (hv : bootBuiltins x = some (.builtin id)) (ha : ZOs X W (e :: es) ps) (hn : x ≠ "__name__" := by decide) (hdb : (x == ("__debug__" : Str)) = false := by decide)
    (he : starEach (e :: es) X.env = (false, eval e X.env) :: starEach es X.env := by rfl) (hpl : (backTo pos (starEach es X.env)).any (·.1) = false := by rfl) : ZE X W (ps.all (·.1)) (.Call (.Name x p) (e :: es) [] pos) (zOps g (ps.map (·.2))) :=
  peImp (pe_callB hc hg hm hv ha hn hdb he hpl) fun σ H Q ⟨c, ρ, T, tv, s, q⟩ => ops_run lr s q
theorem ze_callTy {x : Str} {p : Pos} {id : String} {r : List V → Hp → VK → Prop} (hc : CallR X (.type id) r) (lr : LR (mOf X) r g) (hg : Gl X x) (hm : X.mg x = none) (hv : bootBuiltins x = some (.type id)) (ha : ZOs X W (e :: es) ps) (hn : x ≠ "__name__" := by decide) (hdb : (x == ("__debug__" : Str)) = false := by decide)
    (he : starEach (e :: es) X.env = (false, eval e X.env) :: starEach es X.env := by rfl) (hpl : (backTo pos (starEach es X.env)).any (·.1) = false := by rfl) : ZE X W (ps.all (·.1)) (.Call (.Name x p) (e :: es) [] pos) (zOps g (ps.map (·.2))) :=
  peImp (pe_callTy hc hg hm hv ha hn hdb he hpl) fun σ H Q ⟨c, ρ, T, tv, s, q⟩ => ops_run lr s q
theorem ze_ix {r : R2} (hr : IxR X r) (lr : LR (mOf X) (lift2 r) g) (ha : ZO X W p1 a o1) (hb : ZO X W p2 b o2) (hs : PlainIx b) : ZE X W (p1 && (p2 && true)) (.Subscript a b pos) (zOps g [o1, o2]) :=
  peImp (pe_ix hr ha hb hs) fun σ H Q ⟨c, ρ, T, tv, s, q⟩ => ops_run (pos := [(p1, o1), (p2, o2)]) lr s q
end

/-! ### new results -/
section
variable {m : M} {F H : Hp} {Q : VK}
/-- a new list of pure things -/
theorem Yl.newL {ds : List D} {vs : List V} {B : List Addr} (y : Yl m F H (.nd (.lst true) ds) Q) (s : Same F H) (r : Reps m F H vs ds B) (p : pureL ds = true) : ∀ l, H l = none → Q (.ref l) (upd H l (.lst vs)) := fun l hl => by
  refine y (.ref l) (upd H l (.lst vs)) F [l] (Same.refl _) (s.trans (updSame hl)) ?_ (by simp) (fun a ha => ?_) (fun a ha => ?_) (fun _ _ h => .inl h) (updSame hl)
  · exact .ow (ex := []) (A := []) rfl ⟨rfl, upd_same⟩ (r.pureR p (Same.refl _))
  · have e : a = l := by simpa using ha
    subst e
    cases q : F a with
    | none => rfl
    | some x => rw [s _ _ q] at hl; cases hl
  · have e : a = l := by simpa using ha
    subst e; exact hl
theorem Yl.newTup {ds : List D} {vs : List V} {B : List Addr} (y : Yl m F H (.nd .tup ds) Q) (s : Same F H) (r : Reps m F H vs ds B) (p : pureL ds = true) : ∀ l, H l = none → Q (.ref l) (upd H l (.tup vs)) := fun l hl => by
  have fl : F l = none := by
    cases q : F l with
    | none => rfl
    | some x => rw [s _ _ q] at hl; cases hl
  refine y (.ref l) (upd H l (.tup vs)) (upd F l (.tup vs)) [] (updSame fl) (fun a o q => ?_) ?_ (by simp) (fun a ha => absurd ha (by simp)) (fun a ha => absurd ha (by simp)) (fun a o q => ?_) (updSame hl)
  · by_cases e : a = l
    · subst e; rw [upd_same] at q ⊢; exact q
    · rw [upd_ne e] at q ⊢; exact s _ _ q
  · exact .fz rfl (SqT.of upd_same) (r.pureR p (updSame fl)) (.inr rfl)
  · by_cases e : a = l
    · subst e; exact .inr hl
    · rw [upd_ne e] at q; exact .inl q
theorem Yl.pureV {d : D} {v : V} {B : List Addr} (y : Yl m F H d Q) (s : Same F H) (r : Rep m F H v d B) (p : d.pure = true) : Q v H := y.same s (r.pureR p (Same.refl _))
end
/-! ### arithmetic -/
def gAdd : List D → Option D
  | [.at (.int i), .at (.int j)] => some (.at (.int (i + j)))
  | [.at (.str x), .at (.str y)] => if x.length + y.length ≤ sizeLine then some (.at (.str (x ++ y))) else none
  | [.nd (.lst _) xs, .nd (.lst _) ys] => if pureL xs = true ∧ pureL ys = true ∧ xs.length + ys.length ≤ sizeLine then some (.nd (.lst true) (xs ++ ys)) else none
  | [.nd .tup xs, .nd .tup ys] => if pureL xs = true ∧ pureL ys = true ∧ xs.length + ys.length ≤ sizeLine then some (.nd .tup (xs ++ ys)) else none
  | _ => none
def rAddAll (K : PySem.W.Frag) : R2 := fun x y H Q => rI0 (fun i j => .int (i + j)) x y H Q ∨ (∃ i j, x = .str i ∧ y = .str j ∧ i.length + j.length ≤ sizeLine ∧ Q (.str (i ++ j)) H) ∨ rCat x y H Q ∨ rCatA K x y H Q
theorem op_addAll {X : Cx} : OpR X (binaryOp .Add) (rAddAll X.K) := op_add.or (op_add_str.or (op_cat.or op_catA))
theorem pureL_append {xs ys : List D} (h1 : pureL xs = true) (h2 : pureL ys = true) : pureL (xs ++ ys) = true := by
  rw [pureL_all, List.all_append, ← pureL_all, ← pureL_all, h1, h2]; rfl
theorem Reps.nilV {m : M} {F H : Hp} {ds : List D} {A : List Addr} (r : Reps m F H [] ds A) : ds = [] := by cases r; rfl
theorem Reps.nilD {m : M} {F H : Hp} {vs : List V} {A : List Addr} (r : Reps m F H vs [] A) : vs = [] := by cases r; rfl
theorem lr_add {m : M} : LR m (lift2 (rAddAll m.K)) gAdd := by
  intro F H vs ds A d Q sm rs hg y
  unfold gAdd at hg
  split at hg
  · obtain ⟨x1, y1, rfl, ⟨_, r1⟩, _, r2⟩ := reps2 rs
    cases hg
    exact .inl ⟨_, _, rep_at r1, rep_at r2, y.atom sm⟩
  · obtain ⟨x1, y1, rfl, ⟨_, r1⟩, _, r2⟩ := reps2 rs
    split at hg
    · rename_i hz
      cases hg
      exact .inr (.inl ⟨_, _, rep_at r1, rep_at r2, hz, y.atom sm⟩)
    · cases hg
  · obtain ⟨x1, y1, rfl, ⟨_, r1⟩, _, r2⟩ := reps2 rs
    split at hg
    · rename_i hz
      cases hg
      obtain ⟨a1, v1, B1, rfl, e1, q1⟩ := rep_lst r1 sm
      obtain ⟨a2, v2, B2, rfl, e2, q2⟩ := rep_lst r2 sm
      refine .inr (.inr (.inl ⟨a1, a2, v1, v2, rfl, rfl, e1, e2, ?_, y.newL sm (q1.append q2) (pureL_append hz.1 hz.2.1)⟩))
      rw [q1.length, q2.length]; exact hz.2.2
    · cases hg
  · obtain ⟨x1, y1, rfl, ⟨_, r1⟩, _, r2⟩ := reps2 rs
    split at hg
    · rename_i hz
      cases hg
      obtain ⟨a1, v1, B1, rfl, e1, q1⟩ := rep_tup r1
      obtain ⟨a2, v2, B2, rfl, e2, q2⟩ := rep_tup r2
      refine .inr (.inr (.inr ⟨a1, a2, v1, v2, rfl, rfl, Same.sqT sm e1, Same.sqT sm e2, ?_, fun h => ?_, fun h h' => ?_, fun h h' => y.newTup sm (q1.append q2) (pureL_append hz.1 hz.2.1)⟩))
      · rw [q1.length, q2.length]; exact hz.2.2
      · subst h
        have e := q1.nilV
        subst e
        rw [List.nil_append] at y
        refine y.pureV sm r2 ?_
        rw [D.pure, hz.2.1]; rfl
      · subst h'
        have e := q2.nilV
        subst e
        rw [List.append_nil] at y
        refine y.pureV sm r1 ?_
        rw [D.pure, hz.1]; rfl
    · cases hg
  · cases hg
def gInt2 (ok : Int → Int → Bool) (f : Int → Int → Int) : List D → Option D
  | [.at (.int i), .at (.int j)] => if ok i j = true then some (.at (.int (f i j))) else none
  | _ => none
theorem lr_int2 {m : M} {C : Int → Int → Prop} {f : Int → Int → Int} {ok : Int → Int → Bool} (h : ∀ i j, ok i j = true → C i j) : LR m (lift2 (rI C fun i j => .int (f i j))) (gInt2 ok f) := by
  intro F H vs ds A d Q sm rs hg y
  unfold gInt2 at hg
  split at hg
  · obtain ⟨x1, y1, rfl, ⟨_, r1⟩, _, r2⟩ := reps2 rs
    split at hg
    · rename_i hz
      cases hg
      exact ⟨_, _, rep_at r1, rep_at r2, h _ _ hz, y.atom sm⟩
    · cases hg
  · cases hg
def gSub : List D → Option D := gInt2 (fun _ _ => true) fun i j => i - j
def gMul : List D → Option D := gInt2 (fun i j => decide ((-(2 ^ 64) < i ∧ i < 2 ^ 64) ∨ (-(2 ^ 64) < j ∧ j < 2 ^ 64))) fun i j => i * j
def gDiv : List D → Option D := gInt2 (fun _ j => decide (0 < j ∧ j < 1073741824)) fun i j => i / j
def gMod : List D → Option D := gInt2 (fun _ j => decide (0 < j)) fun i j => i % j
def gPow : List D → Option D := gInt2 (fun i j => decide (0 ≤ j ∧ j ≤ 1000000 ∧ i.natAbs < 2 ^ 64)) fun i j => i ^ j.toNat
def gNeg : List D → Option D
  | [.at (.int i)] => some (.at (.int (-i)))
  | _ => none
theorem lr_neg {m : M} : LR m (lift1 (rU fun i => .int (-i))) gNeg := by
  intro F H vs ds A d Q sm rs hg y
  unfold gNeg at hg
  split at hg
  · obtain ⟨x1, rfl, _, r1⟩ := reps1 rs
    cases hg
    exact ⟨_, rep_at r1, y.atom sm⟩
  · cases hg
theorem lr_sub {m : M} : LR m (lift2 (rI0 fun i j => .int (i - j))) gSub := by
  intro F H vs ds A d Q sm rs hg y
  unfold gSub gInt2 at hg
  split at hg
  · obtain ⟨x1, y1, rfl, ⟨_, r1⟩, _, r2⟩ := reps2 rs
    rw [if_pos rfl] at hg
    cases hg
    exact ⟨_, _, rep_at r1, rep_at r2, y.atom sm⟩
  · cases hg
section
variable {X : Cx} {W : WX} {pos : Pos} {p1 p2 : Bool} {o1 o2 : Opd} {a b : Expr}
theorem ze_add (ha : ZO X W p1 a o1) (hb : ZO X W p2 b o2) : ZE X W (p1 && (p2 && true)) (.BinOp a .Add b pos) (zOps gAdd [o1, o2]) := ze_bin op_addAll lr_add ha hb
theorem ze_minus (ha : ZO X W p1 a o1) (hb : ZO X W p2 b o2) : ZE X W (p1 && (p2 && true)) (.BinOp a .Sub b pos) (zOps gSub [o1, o2]) := ze_bin op_sub lr_sub ha hb
theorem ze_mul (ha : ZO X W p1 a o1) (hb : ZO X W p2 b o2) : ZE X W (p1 && (p2 && true)) (.BinOp a .Mult b pos) (zOps gMul [o1, o2]) := ze_bin op_mul (lr_int2 fun i j h => show CMul i j from of_decide_eq_true (p := (-(2 ^ 64) < i ∧ i < 2 ^ 64) ∨ (-(2 ^ 64) < j ∧ j < 2 ^ 64)) h) ha hb
theorem ze_fdiv (ha : ZO X W p1 a o1) (hb : ZO X W p2 b o2) : ZE X W (p1 && (p2 && true)) (.BinOp a .FloorDiv b pos) (zOps gDiv [o1, o2]) := ze_bin op_fdiv (lr_int2 fun i j h => show CDiv i j from of_decide_eq_true (p := 0 < j ∧ j < 1073741824) h) ha hb
theorem ze_mod (ha : ZO X W p1 a o1) (hb : ZO X W p2 b o2) : ZE X W (p1 && (p2 && true)) (.BinOp a .Mod b pos) (zOps gMod [o1, o2]) := ze_bin op_mod (lr_int2 fun _ _ h => of_decide_eq_true h) ha hb
theorem ze_pow (ha : ZO X W p1 a o1) (hb : ZO X W p2 b o2) : ZE X W (p1 && (p2 && true)) (.BinOp a .Pow b pos) (zOps gPow [o1, o2]) := ze_bin op_pow (lr_int2 fun i j h => show CPow i j from of_decide_eq_true (p := 0 ≤ j ∧ j ≤ 1000000 ∧ i.natAbs < 2 ^ 64) h) ha hb
theorem ze_neg (ha : ZO X W p1 a o1) : ZE X W (p1 && true) (.UnaryOp .USub a pos) (zOps gNeg [o1]) := ze_un un_neg lr_neg ha
end

/-! ### comparisons -/
def D.ok (d : D) : Bool := d.plain && SeqAt.shaped d.py
def eqD (x y : D) : Bool := PyData.eqv x.py y.py
def gEq : List D → Option D
  | [x, y] => if x.ok = true ∧ y.ok = true then some (.at (.bl (eqD x y))) else none
  | _ => none
def gNe : List D → Option D
  | [x, y] => if x.ok = true ∧ y.ok = true then some (.at (.bl (!eqD x y))) else none
  | _ => none
theorem ok_of {x : D} (h : x.ok = true) : x.plain = true ∧ SeqAt.shaped x.py = true := Bool.and_eq_true_iff.mp h
theorem lr_eq {m : M} : LR m (lift2 (rEqD m.K)) gEq := by
  intro F H vs ds A d Q sm rs hg y
  unfold gEq at hg
  split at hg
  · obtain ⟨x1, y1, rfl, ⟨_, r1⟩, _, r2⟩ := reps2 rs
    split at hg
    · rename_i hz
      cases hg
      obtain ⟨h1, h2⟩ := ok_of hz.1
      obtain ⟨h3, h4⟩ := ok_of hz.2
      exact ⟨_, _, r1.dp sm h1, r2.dp sm h3, h2, h4, y.atom sm⟩
    · cases hg
  · cases hg
theorem lr_ne {m : M} : LR m (lift2 (rNeD m.K)) gNe := by
  intro F H vs ds A d Q sm rs hg y
  unfold gNe at hg
  split at hg
  · obtain ⟨x1, y1, rfl, ⟨_, r1⟩, _, r2⟩ := reps2 rs
    split at hg
    · rename_i hz
      cases hg
      obtain ⟨h1, h2⟩ := ok_of hz.1
      obtain ⟨h3, h4⟩ := ok_of hz.2
      exact ⟨_, _, r1.dp sm h1, r2.dp sm h3, h2, h4, y.atom sm⟩
    · cases hg
  · cases hg
/-- < of data -/
def rLtD (K : PySem.W.Frag) : R2 := fun x y H Q => ∃ d e, Dp K H x d ∧ Dp K H y e ∧ PySem.W.alike d e = true ∧ d ≠ .none ∧ d.depth ≤ 64 ∧ Q (.bl (PySem.W.dataLt d e)) H
theorem op_ltD {X : Cx} (hu : X.A.units + 64 < cLine) : OpR X (compareOp .Lt) (rLtD X.K) := by
  intro pins s σ H x y v u Q I rx ry h
  obtain ⟨d, e, hd, he, al, hn, hz, q⟩ := h
  obtain ⟨as, r1⟩ := Dp.reads I d x v hd rx
  obtain ⟨bs, r2⟩ := Dp.reads I e y u he ry
  have R := PySem.W.rcLt_alike d e X.A s v u as bs r1 r2 al hn (by
    have := Nat.min_le_left d.depth e.depth
    omega)
  have z : wpAny (model X.prog X.w) X.A (compareOp .Lt v u) (EP X pins σ Q) X.xe s := R X.prog X.w X.xe (EP X pins σ Q) ⟨.bl _, H, I, rfl, q⟩
  exact z
def ltOk (x y : D) : Bool := x.plain && (y.plain && (PySem.W.alike x.py y.py && decide (x.py.depth ≤ 64)))
def ltD (x y : D) : Bool := PySem.W.dataLt x.py y.py
def gLt : List D → Option D
  | [.at (.int i), .at (.int j)] => some (.at (.bl (decide (i < j))))
  | [.at .non, _] => none
  | [x, y] => if ltOk x y = true then some (.at (.bl (ltD x y))) else none
  | _ => none
def rLtAll (K : PySem.W.Frag) : R2 := fun x y H Q => rI0 (fun i j => .bl (decide (i < j))) x y H Q ∨ rLtD K x y H Q
theorem lr_lt {m : M} : LR m (lift2 (rLtAll m.K)) gLt := by
  intro F H vs ds A d Q sm rs hg y
  unfold gLt at hg
  split at hg
  · obtain ⟨x1, y1, rfl, ⟨_, r1⟩, _, r2⟩ := reps2 rs
    cases hg
    exact .inl ⟨_, _, rep_at r1, rep_at r2, y.atom sm⟩
  · cases hg
  · rename_i x0 y0 hne1 hne2
    obtain ⟨x1, y1, rfl, ⟨_, r1⟩, _, r2⟩ := reps2 rs
    split at hg
    · rename_i hz
      cases hg
      unfold ltOk at hz
      rw [Bool.and_eq_true, Bool.and_eq_true, Bool.and_eq_true] at hz
      refine .inr ⟨_, _, r1.dp sm hz.1, r2.dp sm hz.2.1, hz.2.2.1, fun z => ?_, of_decide_eq_true hz.2.2.2, y.atom sm⟩
      cases x0 with
      | «at» a0 =>
        cases a0 with
        | non => exact hne2 rfl
        | _ => simp [D.py] at z
      | nd k xs => cases k <;> simp [D.py] at z
    · cases hg
  · cases hg
def gCmpI (f : Int → Int → Bool) : List D → Option D
  | [.at (.int i), .at (.int j)] => some (.at (.bl (f i j)))
  | _ => none
theorem lr_cmpI {m : M} {f : Int → Int → Bool} : LR m (lift2 (rI0 fun i j => .bl (f i j))) (gCmpI f) := by
  intro F H vs ds A d Q sm rs hg y
  unfold gCmpI at hg
  split at hg
  · obtain ⟨x1, y1, rfl, ⟨_, r1⟩, _, r2⟩ := reps2 rs
    cases hg
    exact ⟨_, _, rep_at r1, rep_at r2, y.atom sm⟩
  · cases hg
def gLe : List D → Option D := gCmpI fun i j => decide (i ≤ j)
def gGt : List D → Option D := gCmpI fun i j => decide (j < i)
def gGe : List D → Option D := gCmpI fun i j => decide (j ≤ i)
/-- is, is not: None, True, False -/
def isNon : D → Bool
  | .at .non => true
  | _ => false
def gIsN : List D → Option D
  | [x, .at .non] => some (.at (.bl (isNon x)))
  | [.at (.bl a), .at (.bl b)] => some (.at (.bl (decide (a = b))))
  | _ => none
theorem rep_non {m : M} {F H : Hp} {v : V} {d : D} {A : List Addr} (r : Rep m F H v d A) : decide (v = .non) = isNon d := by
  cases r with
  | «at» a => cases a <;> first | rfl | simp [At.v, isNon]
  | fz _ _ _ _ => simp [isNon]
  | ow _ _ _ => simp [isNon]
def rIsAll : R2 := fun x y H Q => (y = .non ∧ Q (.bl (decide (x = .non))) H) ∨ rIsB x y H Q
theorem lr_is {m : M} : LR m (lift2 rIsAll) gIsN := by
  intro F H vs ds A d Q sm rs hg y
  unfold gIsN at hg
  split at hg
  · obtain ⟨x1, y1, rfl, ⟨_, r1⟩, _, r2⟩ := reps2 rs
    cases hg
    exact .inl ⟨rep_at r2, by rw [rep_non r1]; exact y.atom sm⟩
  · obtain ⟨x1, y1, rfl, ⟨_, r1⟩, _, r2⟩ := reps2 rs
    cases hg
    exact .inr ⟨_, _, rep_at r1, rep_at r2, y.atom sm⟩
  · cases hg
section
variable {X : Cx} {W : WX} {pos : Pos} {p1 p2 : Bool} {o1 o2 : Opd} {a b : Expr}
theorem ze_eq (hu : X.A.units + 64 < cLine) (ha : ZO X W p1 a o1) (hb : ZO X W p2 b o2) : ZE X W (p1 && (p2 && true)) (.Compare a [.Eq] [b] pos) (zOps gEq [o1, o2]) := ze_cmp (op_eqD hu) lr_eq ha hb (nomark _)
theorem op_ltAll (hu : X.A.units + 64 < cLine) : OpR X (compareOp .Lt) (rLtAll X.K) := op_lt.or (op_ltD hu)
theorem op_isAll : OpR X (compareOp .Is) rIsAll := op_isN.or op_isBl
theorem ze_is (ha : ZO X W p1 a o1) (hb : ZO X W p2 b o2) : ZE X W (p1 && (p2 && true)) (.Compare a [.Is] [b] pos) (zOps gIsN [o1, o2]) := ze_cmp op_isAll lr_is ha hb (nomark _)
end
end Z

set_option Elab.async false
set_option linter.all false
set_option maxRecDepth 100000
set_option maxHeartbeats 4000000
/-! Z5: dicts whose keys are tuples; in, subscripts, slices, len. -/
namespace Z
open PySem PySem.Spec PyProof.Rows L2

/-! ### keys -/
mutual
/-- the key that data are (no bool in it) -/
def D.key : D → Option NestedKey
  | .at .non => some .none
  | .at (.int i) => some (.num i)
  | .at (.str x) => some (.text x)
  | .at (.bl _) => none
  | .nd .tup xs => (keyL xs).map .tup
  | .nd _ _ => none
def keyL : List D → Option (List NestedKey)
  | [] => some []
  | x :: xs => match x.key, keyL xs with
    | some k, some ks => some (k :: ks)
    | _, _ => none
end
mutual
def kD : NestedKey → D
  | .none => .at .non
  | .num i => .at (.int i)
  | .text x => .at (.str x)
  | .tup ks => .nd .tup (kDL ks)
def kDL : List NestedKey → List D
  | [] => []
  | k :: ks => kD k :: kDL ks
end
section
variable {m : M} {F H : Hp}
mutual
theorem Rep.key : ∀ {v : V} {d : D} {A : List Addr} {k : NestedKey}, Rep m F H v d A → d.key = some k → KRep m.K F v k
  | _, _, _, _, .at .non, h => by rw [D.key] at h; cases h; exact .non
  | _, _, _, _, .at (.int i), h => by rw [D.key] at h; cases h; exact .num i
  | _, _, _, _, .at (.str x), h => by rw [D.key] at h; cases h; exact .text x
  | _, _, _, _, .at (.bl x), h => by simp [D.key] at h
  | _, _, _, _, .fz (k := .tup) h1 h2 h3 h4, h => by
    rw [D.key] at h
    obtain ⟨ks, e, rfl⟩ := Option.map_eq_some_iff.mp h
    exact .tup h2 (Reps.key h3 e)
  | _, _, _, _, .fz (k := .scr) h1 h2 h3 h4, h => by simp [D.key] at h
  | _, _, _, _, .fz (k := .tpn) h1 h2 h3 h4, h => by simp [D.key] at h
  | _, _, _, _, .fz (k := .dw _) h1 h2 h3 h4, h => by simp [D.key] at h
  | _, _, _, _, .fz (k := .lst _) h1 h2 h3 h4, h => by simp [D.key] at h
  | _, _, _, _, .fz (k := .dk _ _) h1 h2 h3 h4, h => by simp [D.key] at h
  | _, _, _, _, .fz (k := .dn _ _) h1 h2 h3 h4, h => by simp [D.key] at h
  | _, _, _, _, .fz (k := .ins _ _ _) h1 h2 h3 h4, h => by simp [D.key] at h
  | _, _, _, _, .fz (k := .dl _ _) h1 h2 h3 h4, h => by simp [D.key] at h
  | _, _, _, _, .ow (k := .tup) h1 h2 h3, h => h2.elim
  | _, _, _, _, .ow (k := .scr) h1 h2 h3, h => h2.elim
  | _, _, _, _, .ow (k := .tpn) h1 h2 h3, h => h2.elim
  | _, _, _, _, .ow (k := .dw _) h1 h2 h3, h => h2.elim
  | _, _, _, _, .ow (k := .lst _) h1 h2 h3, h => by simp [D.key] at h
  | _, _, _, _, .ow (k := .dk _ _) h1 h2 h3, h => by simp [D.key] at h
  | _, _, _, _, .ow (k := .dn _ _) h1 h2 h3, h => by simp [D.key] at h
  | _, _, _, _, .ow (k := .ins _ _ _) h1 h2 h3, h => by simp [D.key] at h
  | _, _, _, _, .ow (k := .dl _ _) h1 h2 h3, h => by simp [D.key] at h
theorem Reps.key : ∀ {vs : List V} {ds : List D} {A : List Addr} {ks : List NestedKey}, Reps m F H vs ds A → keyL ds = some ks → KReps m.K F vs ks
  | _, _, _, _, .nil, h => by rw [keyL] at h; cases h; exact .nil
  | _, _, _, ks, .cons (d := d) (ds := ds) h1 r, h => by
    rw [keyL] at h
    cases e1 : d.key with
    | none => rw [e1] at h; cases h
    | some k =>
      cases e2 : keyL ds with
      | none => rw [e1, e2] at h; cases h
      | some ks2 =>
        rw [e1, e2] at h
        cases h
        exact .cons (Rep.key h1 e1) (Reps.key r e2)
end
end
/-- a plain key -/
def D.pkey : D → Option Key
  | .at (.int i) => some (.inl i)
  | .at (.str x) => some (.inr x)
  | _ => none
theorem Rep.pkey {m : M} {F H : Hp} {v : V} {d : D} {A : List Addr} {k : Key} (r : Rep m F H v d A) (h : d.pkey = some k) : v = kV k := by
  cases r with
  | «at» a => cases a <;> simp [D.pkey] at h <;> subst h <;> rfl
  | fz _ _ _ _ => simp [D.pkey] at h
  | ow _ _ _ => simp [D.pkey] at h

section
variable {X : Cx} {pins : List (Addr × Obj)} {σ : Sl} {H : Hp} {s : Shared}
mutual
theorem KRep.is (I : Inv X pins σ H s) : ∀ {k : NestedKey} {v : V} {u : Value}, KRep X.K H v k → RelV v u → NestedIs s.heap k u
  | _, _, _, .non, r => by cases r; exact .none
  | _, _, _, .num i, r => by obtain ⟨t, rfl⟩ := r; exact .int i t
  | _, _, _, .text x, r => by obtain ⟨t, rfl⟩ := r; exact .text x t
  | _, _, _, .tup (ks := ks) h q, r => by
    cases r
    obtain ⟨its, rv, ⟨o, h1, h2, n, h3⟩, _⟩ := I.tuple h
    exact .tup h1 h2 h3 (by simpa using KReps.is I q rv)
theorem KReps.is (I : Inv X pins σ H s) : ∀ {ks : List NestedKey} {vs : List V} {us : List Value}, KReps X.K H vs ks → Vals vs us → NestedAll s.heap ks us
  | _, _, _, .nil, r => by cases r; exact .nil
  | _, _, _, .cons h q, r => by
    cases r with
    | cons r1 r2 => exact .cons (KRep.is I h r1) (KReps.is I q r2)
end
abbrev REnt : (NestedKey × Addr × V) → (NestedKey × Addr × Value) → Prop := fun p q => p.1 = q.1 ∧ p.2.1 = q.2.1 ∧ RelV p.2.2 q.2.2
/-- what the entries hold at a key -/
def entAt (es : List (NestedKey × Addr × V)) (k : NestedKey) : Option V := (es.find? fun e => decide (e.1 = k)).map (·.2.2)
def KOk (K : PySem.W.Frag) (H : Hp) (es : List (NestedKey × Addr × V)) : Prop := ∀ e ∈ es, KRep K H (.ref e.2.1) e.1 ∧ e.1.depth ≤ 8
theorem ent_val : ∀ {es : List (NestedKey × Addr × V)} {xs : List (NestedKey × Addr × Value)}, Paired REnt es xs → ∀ k, RelO (entAt es k) ((atKey xs k).map (·.2))
  | _, _, .nil, k => True.intro
  | _, _, .cons (a := p) (b := q) (l₁ := es) (l₂ := xs) ⟨h1, h2, h3⟩ t, k => by
    unfold entAt atKey
    rw [List.find?_cons, List.find?_cons]
    by_cases e : p.1 = k
    · rw [decide_eq_true e, decide_eq_true (h1.symm.trans e)]
      exact h3
    · rw [decide_eq_false e, decide_eq_false (fun z => e (h1.trans z))]
      exact ent_val t k
/-- the dict by the model's own words -/
theorem dn_of (I : Inv X pins σ H s) {a : Addr} {es : List (NestedKey × Addr × V)} (h : DnI X.prog X.w H a es) (hk : KOk X.K H es) : ∃ xs, Paired REnt es xs ∧ s.heap.DictOfH (nestedKind X.prog X.w) a xs := by
  obtain ⟨o, h⟩ := h
  obtain ⟨⟨arr, ep, xs, h1, h2, h3, h4, h5, h6⟩, _⟩ := (show ObjOk X.prog X.w H s.heap a (dnO X.prog X.w a o es) from I.hok a _ h)
  refine ⟨xs, h5, o, arr, ep, h1, h2, h3, h4, fun x hx => ?_, h6⟩
  have all : ∀ {l : List (NestedKey × Addr × V)} {q : List (NestedKey × Addr × Value)}, Paired REnt l q → (∀ e ∈ l, KRep X.K H (.ref e.2.1) e.1 ∧ e.1.depth ≤ 8) → ∀ x ∈ q, (nestedKind X.prog X.w).is s.heap x.1 x.2.1 := by
    intro l q r
    induction r with
    | nil => intro _ x hx; exact nomatch hx
    | @cons p q ps qs hq t ih =>
      intro hk x hx
      rcases List.mem_cons.mp hx with e | hx
      · subst e
        obtain ⟨k1, k2⟩ := hk p List.mem_cons_self
        rw [hq.1, hq.2.1] at k1
        rw [hq.1] at k2
        exact ⟨KRep.is I k1 rfl, k2⟩
      · exact ih (fun e he => hk e (List.mem_cons_of_mem _ he)) x hx
  exact all h5 hk x hx
theorem dn_new {P : Program} {w : World} {h' : Heap} {a : Addr} {es : List (NestedKey × Addr × V)} {xs : List (NestedKey × Addr × Value)} (r : Paired REnt es xs) (d : h'.DictOfH (nestedKind P w) a xs) : ∃ o, ∀ H' : Hp, ObjOk P w H' h' a (dnO P w a o es) := by
  obtain ⟨o, arr, ep, h1, h2, h3, h4, _, h6⟩ := d
  exact ⟨o, fun H' => ⟨⟨arr, ep, xs, h1, h2, h3, h4, r, h6⟩, ⟨o, h1⟩, fun g1 g2 ⟨arr', ep', xs', k1, k2, k3, k4, k5, k6⟩ kk => ⟨arr', ep', xs', kk _ k1, k2, k3, k4, k5, k6⟩⟩⟩
/-- the dict at a, as a rule by values reads it -/
def DnG (P : Program) (w : World) (K : PySem.W.Frag) (H : Hp) (a : Addr) (y : V) (es : List (NestedKey × Addr × V)) (k : NestedKey) : Prop :=
  DnI P w H a es ∧ KOk K H es ∧ (a == sysModules) = false ∧ (∃ b, y = .ref b) ∧ KRep K H y k ∧ k.depth ≤ 8 ∧ es.length ≤ sizeLine
theorem DnG.to (hu : X.A.units + 64 < cLine) (I : Inv X pins σ H s) {a : Addr} {y : V} {u : Value} {es : List (NestedKey × Addr × V)} {k : NestedKey} (g : DnG X.prog X.w X.K H a y es k) (r : RelV y u) :
    ∃ b xs, y = .ref b ∧ u = .ref b ∧ Paired REnt es xs ∧ s.heap.DictOfH (nestedKind X.prog X.w) a xs ∧ (nestedKind X.prog X.w).is s.heap k b ∧ (nestedKind X.prog X.w).room X.A.in1 := by
  obtain ⟨h1, h2, h3, ⟨b, rfl⟩, h4, h5, _⟩ := g
  obtain ⟨xs, r1, d⟩ := dn_of I h1 h2
  cases (show u = Value.ref b from r)
  exact ⟨b, xs, rfl, rfl, r1, d, ⟨KRep.is I h4 rfl, h5⟩, by show X.A.units + 1 + 8 < cLine; omega⟩
theorem dn_in (hu : X.A.units + 64 < cLine) : OpR X (compareOp .In) (fun y x H Q => ∃ a es k, x = .ref a ∧ DnG X.prog X.w X.K H a y es k ∧ Q (.bl (entAt es k).isSome) H) := by
  intro pins s σ H y x u v Q I ry rx h
  obtain ⟨a, es, k, rfl, g, q⟩ := h
  cases (show v = Value.ref a from rx)
  obtain ⟨b, xs, rfl, rfl, r1, d, hk, hr⟩ := g.to hu I ry
  refine wpAny_in_heap hr hk g.2.2.1 d ?_
  have z := (ent_val r1 k).isSome_eq
  rw [Option.isSome_map] at z
  rw [← z]
  exact ⟨.bl _, H, I.tok _, rfl, q⟩
def rIxDn (P : Program) (w : World) (K : PySem.W.Frag) : R2 := fun x y H Q => ∃ a es k v, x = .ref a ∧ DnG P w K H a y es k ∧ entAt es k = some v ∧ Q v H
theorem ix_dn (hu : X.A.units + 64 < cLine) : IxR X (rIxDn X.prog X.w X.K) := by
  intro value slice pins s σ H x y v u Q I rx ry h hs
  obtain ⟨a, es, k, v0, rfl, g, e, q⟩ := h
  cases (show v = Value.ref a from rx)
  obtain ⟨b, xs, rfl, rfl, r1, d, hk, hr⟩ := g.to hu I ry
  have z := ent_val r1 k
  rw [e] at z
  obtain ⟨w', hw, rw'⟩ := RelO.some_of z
  obtain ⟨p, hp, hp2⟩ := Option.map_eq_some_iff.mp hw
  refine tail_any d.typeIs PySem.F.slot_dict_getitem.lookup (wpAny_getItem_heap hr hk d hp ?_) hs
  rw [hp2]
  exact ⟨v0, H, I.tok _, rw', q⟩
def rIxDk : R2 := fun x y H Q => ∃ a v, x = .ref a ∧ DGet H a y (some v) ∧ Q v H
theorem ix_dk (hu : X.A.units + 64 < cLine) : IxR X rIxDk := by
  intro value slice pins s σ H x y v u Q I rx ry h hs
  obtain ⟨a, v0, rfl, g, q⟩ := h
  cases (show v = Value.ref a from rx)
  exact tail_any (dict_typeIs I g) PySem.F.slot_dict_getitem.lookup (d_getItem (by omega) I g ry fun w' s' I' rw' => ⟨v0, H, I', rw', q⟩) hs
def rIxDw (w : World) (K : PySem.W.Frag) : R2 := fun x y H Q => ∃ (a : Addr) (es : Array DictEntry) (n : Nat) (z : Str) (u0 : Value) (v0 : V), KDict K w a es n ∧ x = .ref a ∧ y = .str z ∧ PySem.W.nsIn K a z = some (some u0) ∧ RelV v0 u0 ∧ Q v0 H
theorem ix_dw : IxR X (rIxDw X.w X.K) := by
  intro value slice pins s σ H x y v u Q I rx ry h hs
  obtain ⟨a, es, n, z, u0, v0, kd, rfl, rfl, h1, h2, q⟩ := h
  cases (show v = Value.ref a from rx)
  exact tail_any (kd_type kd I) PySem.F.slot_dict_getitem.lookup (op_item_kd kd pins s σ H (.ref a) (.str z) _ u Q I rfl ry ⟨z, u0, v0, rfl, rfl, h1, h2, q⟩) hs
theorem dk_in (hu : X.A.units + 64 < cLine) : OpR X (compareOp .In) (fun y x H Q => ∃ a o, x = .ref a ∧ DGet H a y o ∧ Q (.bl o.isSome) H) := by
  intro pins s σ H y x u v Q I ry rx h
  obtain ⟨a, o, rfl, g, q⟩ := h
  cases (show v = Value.ref a from rx)
  exact d_in (by omega) I g ry fun s' I' => ⟨.bl _, H, I', rfl, q⟩
/-- x in a list, a tuple of data -/
def rInQ (K : PySem.W.Frag) (neg : Bool) : R2 := fun x y H Q => ∃ d ds, Dp K H x d ∧ (Dp K H y (.list ds) ∨ Dp K H y (.tuple ds)) ∧ SeqAt.shaped d = true ∧ PyData.canLayAll0 ds = true ∧ Q (.bl (if neg then !ds.any fun z => PyData.eqv z d else ds.any fun z => PyData.eqv z d)) H
theorem q_in (hu : X.A.units + 100 < cLine) : OpR X (compareOp .In) (rInQ X.K false) := by
  intro pins s σ H x y v u Q I rx ry h
  obtain ⟨d, ds, hd, hy, sd, sl, q⟩ := h
  obtain ⟨as, r1⟩ := Dp.reads I d x v hd rx
  have hz := SeqAt.depth_of_shaped sd
  have hm : X.A.units + 1 + min (PyData.depthAll ds) d.depth < cLine := by
    have := Nat.min_le_right (PyData.depthAll ds) d.depth
    omega
  rcases hy with hy | hy
  · obtain ⟨bs, r2⟩ := Dp.reads I _ y u hy ry
    exact SeqAt.in_list_reads r2 r1 sl (SeqAt.canLay_of_shaped sd) hm ⟨.bl _, H, I, rfl, q⟩
  · obtain ⟨bs, r2⟩ := Dp.reads I _ y u hy ry
    exact SeqAt.in_tuple_reads r2 r1 sl (SeqAt.canLay_of_shaped sd) hm ⟨.bl _, H, I, rfl, q⟩
end

/-! ### what data say -/
/-- the value at a plain key -/
def atPK : List Key → List D → Key → Option D
  | k :: ks, d :: ds, j => if k = j then some d else atPK ks ds j
  | _, _, _ => none
def atNK : List NestedKey → List D → NestedKey → Option D
  | k :: ks, d :: ds, j => if k = j then some d else atNK ks ds j
  | _, _, _ => none
def atSK : List Str → List D → Str → Option D
  | k :: ks, d :: ds, j => if k = j then some d else atSK ks ds j
  | _, _, _ => none
section
variable {m : M} {F H : Hp}
/-- the same place in values and data -/
def RepO (m : M) (F H : Hp) : Option V → Option D → Prop
  | some v, some d => ∃ A, Rep m F H v d A
  | none, none => True
  | _, _ => False
theorem atPK_ok : ∀ {ks : List Key} {vs : List V} {ds : List D} {A : List Addr} {j : Key}, ks.length = vs.length → Reps m F H vs ds A → RepO m F H (valV (ks.zip vs) j) (atPK ks ds j)
  | [], [], _, _, j, _, .nil => True.intro
  | k :: ks, v :: vs, _, _, j, h, .cons (d := d) (ds := ds) h1 r => by
    rw [List.zip_cons_cons, atPK]
    by_cases e : k = j
    · rw [valV_pos (show (k, v).1 = j from e), if_pos e]
      exact ⟨_, h1⟩
    · rw [valV_neg (show ¬ (k, v).1 = j from e), if_neg e]
      exact atPK_ok (by simpa using h) r
theorem entAt_ok : ∀ {es : List (NestedKey × Addr × V)} {ds : List D} {A : List Addr} {j : NestedKey}, Reps m F H (es.map (·.2.2)) ds A → RepO m F H (entAt es j) (atNK (es.map (·.1)) ds j)
  | [], _, _, j, .nil => True.intro
  | (k, a, v) :: es, _, _, j, .cons (d := d) (ds := ds) h1 r => by
    show RepO m F H (entAt ((k, a, v) :: es) j) (atNK (k :: es.map (·.1)) (d :: ds) j)
    rw [atNK]
    unfold entAt
    rw [List.find?_cons]
    by_cases e : k = j
    · rw [decide_eq_true e, if_pos e]
      exact ⟨_, h1⟩
    · rw [decide_eq_false e, if_neg e]
      exact entAt_ok r
theorem atSK_ok : ∀ {ks : List Str} {vs : List V} {ds : List D} {A : List Addr} {j : Str} {d : D}, ks.length = vs.length → Reps m F H vs ds A → atSK ks ds j = some d → ∃ (i : Nat) (v : V) (B : List Addr), ks[i]? = some j ∧ vs[i]? = some v ∧ Rep m F H v d B
  | [], [], _, _, j, d, _, .nil, h => by simp [atSK] at h
  | k :: ks, v :: vs, _, _, j, d, h, .cons (ds := ds) h1 r, e => by
    rw [atSK] at e
    split at e
    · rename_i q
      subst q
      cases e
      exact ⟨0, v, _, rfl, rfl, h1⟩
    · obtain ⟨i, v', B, e1, e2, e3⟩ := atSK_ok (by simpa using h) r e
      exact ⟨i + 1, v', B, by simpa using e1, by simpa using e2, e3⟩
theorem RepO.some_of {o : Option V} {d : D} (h : RepO m F H o (some d)) : ∃ v A, o = some v ∧ Rep m F H v d A := by
  cases o with
  | none => exact h.elim
  | some v => obtain ⟨A, h⟩ := h; exact ⟨v, A, rfl, h⟩
theorem RepO.isSome {o : Option V} {d : Option D} (h : RepO m F H o d) : o.isSome = d.isSome := by
  cases o <;> cases d <;> first | rfl | exact h.elim
theorem DnAt.g {a : Addr} {ks : List NestedKey} {vs : List V} {y : V} {k : NestedKey} (h : DnAt m H H a ks vs) (hy : ∃ b, y = .ref b) (hk : KRep m.K H y k) (hd : k.depth ≤ 8) : ∃ es, es.map (·.1) = ks ∧ es.map (·.2.2) = vs ∧ DnG m.P m.w m.K H a y es k := by
  obtain ⟨es, h1, h2, h3, h4, h5, h6⟩ := h
  refine ⟨es, h1, h2, h3, h4, h5, hy, hk, hd, ?_⟩
  rw [← List.length_map (f := (·.1)), h1]
  exact h6.1
end
theorem key_ref {m : M} {F H : Hp} {v : V} {xs : List D} {A : List Addr} (r : Rep m F H v (.nd .tup xs) A) : ∃ b, v = .ref b := by
  cases r <;> exact ⟨_, rfl⟩

/-- x in y -/
def gInB : List D → Option Bool
  | [x, .nd (.lst _) ys] => if x.ok = true ∧ plainL ys = true ∧ PyData.canLayAll0 (pyL ys) = true then some (ys.any fun z => eqD z x) else none
  | [x, .nd .tup ys] => if x.ok = true ∧ plainL ys = true ∧ PyData.canLayAll0 (pyL ys) = true then some (ys.any fun z => eqD z x) else none
  | [x, .nd (.dk _ ks) ys] => x.pkey.map fun k => (atPK ks ys k).isSome
  | [.nd .tup xs, .nd (.dn _ ks) ys] => (D.nd .tup xs).key.bind fun k => if k.depth ≤ 8 then some (atNK ks ys k).isSome else none
  | [.at (.str x), .at (.str y)] => if x.length = 1 then some (decide (x.cps.getD 0 0 ∈ y.cps.toList)) else none
  | _ => none
def gIn (xs : List D) : Option D := (gInB xs).map fun b => .at (.bl b)
def gNotIn (xs : List D) : Option D := (gInB xs).map fun b => .at (.bl (!b))
def rInAll (P : Program) (w : World) (K : PySem.W.Frag) (neg : Bool) : R2 := fun x y H Q =>
  rInQ K neg x y H Q ∨ (∃ a o, y = .ref a ∧ DGet H a x o ∧ Q (.bl (if neg then !o.isSome else o.isSome)) H) ∨
    (∃ a es k, y = .ref a ∧ DnG P w K H a x es k ∧ Q (.bl (if neg then !(entAt es k).isSome else (entAt es k).isSome)) H) ∨
    (∃ (c : Nat) (z : Str), x = .str ⟨#[c]⟩ ∧ y = .str z ∧ Q (.bl (if neg then !decide (c ∈ z.cps.toList) else decide (c ∈ z.cps.toList))) H)
theorem any_eqD (x : D) : ∀ ys : List D, ((pyL ys).any fun z => PyData.eqv z x.py) = ys.any fun z => eqD z x
  | [] => rfl
  | y :: ys => by rw [pyL, List.any_cons, List.any_cons, any_eqD x ys]; rfl
theorem str_one {x : Str} (h : x.length = 1) : x = ⟨#[x.cps.getD 0 0]⟩ := by
  obtain ⟨⟨l⟩⟩ := x
  match l, h with
  | [c], _ => rfl
theorem lr_inB {m : M} {neg : Bool} {g : List D → Option D} (hgg : ∀ ds d, g ds = some d → ∃ b, gInB ds = some b ∧ d = .at (.bl (if neg then !b else b))) : LR m (lift2 (rInAll m.P m.w m.K neg)) g := by
  intro F H vs ds A d Q sm rs hg y
  obtain ⟨b, hb, rfl⟩ := hgg ds d hg
  unfold gInB at hb
  split at hb
  · obtain ⟨x1, y1, rfl, ⟨_, r1⟩, _, r2⟩ := reps2 rs
    split at hb
    · rename_i hz
      cases hb
      obtain ⟨h1, h2⟩ := ok_of hz.1
      have q2 := r2.dp sm (by rw [D.plain]; exact hz.2.1)
      rw [D.py] at q2
      refine .inl ⟨_, _, r1.dp sm h1, .inl q2, h2, hz.2.2, ?_⟩
      rw [any_eqD]
      exact y.atom sm
    · cases hb
  · obtain ⟨x1, y1, rfl, ⟨_, r1⟩, _, r2⟩ := reps2 rs
    split at hb
    · rename_i hz
      cases hb
      obtain ⟨h1, h2⟩ := ok_of hz.1
      have q2 := r2.dp sm (by rw [D.plain]; exact hz.2.1)
      rw [D.py] at q2
      refine .inl ⟨_, _, r1.dp sm h1, .inr q2, h2, hz.2.2, ?_⟩
      rw [any_eqD]
      exact y.atom sm
    · cases hb
  · obtain ⟨x1, y1, rfl, ⟨_, r1⟩, _, r2⟩ := reps2 rs
    obtain ⟨k, hk, rfl⟩ := Option.map_eq_some_iff.mp hb
    obtain ⟨a, ws, B, rfl, ⟨e1, e2, e3⟩, r3⟩ := rep_dk r2 sm
    have z := (atPK_ok (j := k) e1 r3).isSome
    refine .inr (.inl ⟨a, _, rfl, by rw [r1.pkey hk]; exact DGet.k e3, ?_⟩)
    rw [z]
    exact y.atom sm
  · obtain ⟨x1, y1, rfl, ⟨_, r1⟩, _, r2⟩ := reps2 rs
    obtain ⟨k, hk, hb⟩ := Option.bind_eq_some_iff.mp hb
    split at hb
    · rename_i hd
      cases hb
      obtain ⟨a, ws, B, rfl, dn, r3⟩ := rep_dn r2 sm
      obtain ⟨es, e1, e2, g⟩ := dn.g (key_ref r1) (KRep.mono sm (r1.key hk)) hd
      subst e1 e2
      have z := (entAt_ok (j := k) r3).isSome
      refine .inr (.inr (.inl ⟨a, es, k, rfl, g, ?_⟩))
      rw [z]
      exact y.atom sm
    · cases hb
  · obtain ⟨x1, y1, rfl, ⟨_, r1⟩, _, r2⟩ := reps2 rs
    split at hb
    · rename_i h1
      cases hb
      have e1 := rep_at r1
      have e2 := rep_at r2
      refine .inr (.inr (.inr ⟨_, _, by rw [e1]; exact congrArg V.str (str_one h1), e2, y.atom sm⟩))
    · cases hb
  · cases hb
section
variable {X : Cx} {W : WX} {pos : Pos} {p1 p2 : Bool} {o1 o2 : Opd} {a b : Expr}
theorem op_inAll (hu : X.A.units + 100 < cLine) : OpR X (compareOp .In) (rInAll X.prog X.w X.K false) :=
  (q_in hu).or ((dk_in (by omega)).or ((dn_in (by omega)).or op_in_sign))
theorem ze_in (hu : X.A.units + 100 < cLine) (ha : ZO X W p1 a o1) (hb : ZO X W p2 b o2) (hm : behindInMarks .In b = false) : ZE X W (p1 && (p2 && true)) (.Compare a [.In] [b] pos) (zOps gIn [o1, o2]) :=
  ze_cmp (op_inAll hu) (lr_inB fun ds d h => by
    obtain ⟨b, h1, h2⟩ := Option.map_eq_some_iff.mp h
    exact ⟨b, h1, h2.symm⟩) ha hb hm
end

/-! ### subscripts -/
def pureO (o : Option D) : Option D := o.bind fun d => if d.pure = true then some d else none
def gIx : List D → Option D
  | [.nd (.lst _) xs, .at (.int i)] => pureO (atI xs i)
  | [.nd .tup xs, .at (.int i)] => pureO (atI xs i)
  | [.nd .scr xs, .at (.int i)] => pureO (atI xs i)
  | [.at (.str z), .at (.int i)] => if z.length ≤ sizeLine then (atI z.cps.toList i).map fun c => .at (.str ⟨#[c]⟩) else none
  | [.nd (.dk _ ks) xs, y] => pureO (y.pkey.bind fun k => atPK ks xs k)
  | [.nd (.dn _ ks) xs, .nd .tup ys] => pureO ((D.nd .tup ys).key.bind fun k => if k.depth ≤ 8 then atNK ks xs k else none)
  | [.nd (.dw ks) xs, .at (.str z)] => pureO (atSK ks xs z)
  | _ => none
def rIxAll (P : Program) (w : World) (K : PySem.W.Frag) : R2 := fun x y H Q => rIxL K x y H Q ∨ rIxT K x y H Q ∨ rIxS x y H Q ∨ rIxDk x y H Q ∨ rIxDn P w K x y H Q ∨ rIxDw w K x y H Q
theorem ix_all {X : Cx} (hu : X.A.units + 64 < cLine) : IxR X (rIxAll X.prog X.w X.K) := ix_list.or (ix_tup.or (ix_str.or ((ix_dk hu).or ((ix_dn hu).or ix_dw))))
theorem atI_reps {m : M} {F H : Hp} {vs : List V} {ds : List D} {A : List Addr} {i : Int} {d : D} (r : Reps m F H vs ds A) (h : atI ds i = some d) : ∃ v B, atI vs i = some v ∧ Rep m F H v d B := by
  unfold atI at h ⊢
  rw [r.length]
  obtain ⟨j, h1, h2⟩ := Option.bind_eq_some_iff.mp h
  obtain ⟨v, B, e1, e2, _⟩ := r.get h2
  exact ⟨v, B, by rw [h1]; exact e1, e2⟩
theorem pureO_of {o : Option D} {d : D} (h : pureO o = some d) : o = some d ∧ d.pure = true := by
  obtain ⟨d', h1, h2⟩ := Option.bind_eq_some_iff.mp h
  split at h2
  · rename_i hp
    cases h2
    exact ⟨h1, hp⟩
  · cases h2
theorem lr_ix {m : M} : LR m (lift2 (rIxAll m.P m.w m.K)) gIx := by
  intro F H vs ds A d Q sm rs hg y
  unfold gIx at hg
  split at hg
  · obtain ⟨x1, y1, rfl, ⟨_, r1⟩, _, r2⟩ := reps2 rs
    obtain ⟨h1, h2⟩ := pureO_of hg
    obtain ⟨a, ws, B, rfl, e, r3⟩ := rep_lst r1 sm
    obtain ⟨v, B', e1, e2⟩ := atI_reps r3 h1
    exact .inl ⟨a, ws, _, v, rfl, rep_at r2, SqL.of e, e1, y.pureV sm e2 h2⟩
  · obtain ⟨x1, y1, rfl, ⟨_, r1⟩, _, r2⟩ := reps2 rs
    obtain ⟨h1, h2⟩ := pureO_of hg
    obtain ⟨a, ws, B, rfl, e, r3⟩ := rep_tup r1
    obtain ⟨v, B', e1, e2⟩ := atI_reps r3 h1
    exact .inr (.inl ⟨a, ws, _, v, rfl, rep_at r2, Same.sqT sm e, e1, y.pureV sm e2 h2⟩)
  · obtain ⟨x1, y1, rfl, ⟨_, r1⟩, _, r2⟩ := reps2 rs
    obtain ⟨h1, h2⟩ := pureO_of hg
    obtain ⟨a, ws, B, rfl, e, r3⟩ := rep_scr r1
    obtain ⟨v, B', e1, e2⟩ := atI_reps r3 h1
    exact .inl ⟨a, ws, _, v, rfl, rep_at r2, Same.seq sm e, e1, y.pureV sm e2 h2⟩
  · obtain ⟨x1, y1, rfl, ⟨_, r1⟩, _, r2⟩ := reps2 rs
    split at hg
    · rename_i hz
      obtain ⟨c, h1, rfl⟩ := Option.map_eq_some_iff.mp hg
      exact .inr (.inr (.inl ⟨_, _, c, rep_at r1, rep_at r2, hz, h1, y.atom sm⟩))
    · cases hg
  · obtain ⟨x1, y1, rfl, ⟨_, r1⟩, _, r2⟩ := reps2 rs
    obtain ⟨h1, h2⟩ := pureO_of hg
    obtain ⟨k, hk, h3⟩ := Option.bind_eq_some_iff.mp h1
    obtain ⟨a, ws, B, rfl, ⟨e1, e2, e3⟩, r3⟩ := rep_dk r1 sm
    have z := atPK_ok (j := k) e1 r3
    rw [h3] at z
    obtain ⟨v, C, ev, rv⟩ := z.some_of
    refine .inr (.inr (.inr (.inl ⟨a, v, rfl, ?_, y.pureV sm rv h2⟩)))
    rw [r2.pkey hk, ← ev]
    exact DGet.k e3
  · obtain ⟨x1, y1, rfl, ⟨_, r1⟩, _, r2⟩ := reps2 rs
    obtain ⟨h1, h2⟩ := pureO_of hg
    obtain ⟨k, hk, h3⟩ := Option.bind_eq_some_iff.mp h1
    split at h3
    · rename_i hd
      obtain ⟨a, ws, B, rfl, dn, r3⟩ := rep_dn r1 sm
      obtain ⟨es, e1, e2, g⟩ := dn.g (key_ref r2) (KRep.mono sm (r2.key hk)) hd
      subst e1 e2
      have z := entAt_ok (j := k) r3
      rw [h3] at z
      obtain ⟨v, C, ev, rv⟩ := z.some_of
      exact .inr (.inr (.inr (.inr (.inl ⟨a, es, k, v, rfl, g, ev, y.pureV sm rv h2⟩))))
    · cases h3
  · obtain ⟨x1, y1, rfl, ⟨_, r1⟩, _, r2⟩ := reps2 rs
    obtain ⟨h1, h2⟩ := pureO_of hg
    obtain ⟨a, ws, B, rfl, ⟨es, n, kd, e1, e2⟩, r3⟩ := rep_dw r1
    obtain ⟨i, v, C, e3, e4, rv⟩ := atSK_ok e1 r3 h1
    obtain ⟨u0, e5, e6⟩ := e2 i _ _ e3 e4
    exact .inr (.inr (.inr (.inr (.inr ⟨a, es, n, _, u0, v, kd, rfl, rep_at r2, e5, e6, y.pureV sm rv h2⟩))))
  · cases hg
theorem ze_sub {X : Cx} {W : WX} {pos : Pos} {p1 p2 : Bool} {o1 o2 : Opd} {a b : Expr} (hu : X.A.units + 64 < cLine) (ha : ZO X W p1 a o1) (hb : ZO X W p2 b o2) (hs : PlainIx b := by exact fun _ _ => rfl) : ZE X W (p1 && (p2 && true)) (.Subscript a b pos) (zOps gIx [o1, o2]) := ze_ix (ix_all hu) lr_ix ha hb hs
end Z

set_option Elab.async false
set_option linter.all false
set_option maxRecDepth 100000
set_option maxHeartbeats 4000000
/-! Z6: tests, and, or, conditional expressions; len, slices, isinstance, all, any, sum, int, list, tuple .. -/
namespace Z
open PySem PySem.Spec PyProof.Rows L2

/-! ### values of one kind -/
def asInt : D → Option Int
  | .at (.int i) => some i
  | _ => none
def asBl : D → Option Bool
  | .at (.bl b) => some b
  | _ => none
def evI (f : EF) : Env → R Int := fun ρ => (f ρ).bind fun d ρ' => match asInt d with
  | some i => .ok i ρ'
  | none => .stuck
def evB (f : EF) : Env → R Bool := fun ρ => (f ρ).bind fun d ρ' => match asBl d with
  | some i => .ok i ρ'
  | none => .stuck
theorem asInt_of {d : D} {i : Int} (h : asInt d = some i) : d = .at (.int i) := by
  unfold asInt at h
  split at h
  · cases h; rfl
  · cases h
theorem asBl_of {d : D} {i : Bool} (h : asBl d = some i) : d = .at (.bl i) := by
  unfold asBl at h
  split at h
  · cases h; rfl
  · cases h
/-- what is wanted of a result that isn't held -/
def GPost {α : Type} (m : M) (W : WX) (p : Bool) (c : Cz) (T : List D) (σ : Sl) (tv : List V) (H : Hp) (Q : α → Hp → Prop) : R α → Prop
  | .ok a ρ' => ∀ H', ZS m c ρ' T σ tv H' → (p = true → Same H H') → Q a H'
  | .ex e ρ' => ∀ cls dx H', ExR m c.H H' cls dx e → ZS m c ρ' T σ tv H' → W cls dx σ H'
  | .stuck => False
section
variable {m : M} {c : Cz} {ρ : Env} {T : List D} {σ : Sl} {tv : List V} {H F : Hp} {A B : List Addr} {W : WX} {p : Bool} {f : EF}
theorem ZS.topV {a : At} {v : V} (s : ZS m c ρ (.at a :: T) σ (v :: tv) H) : v = a.v := by
  obtain ⟨F, A, B, s⟩ := s
  cases id s.tm with
  | cons h r => exact rep_at h
theorem tZ_int {Q : VK} (s : ZS m c ρ T σ tv H) (h : GPost m W p c T σ tv H (fun i H' => Q (.int i) H') (evI f ρ)) : tZ m W p f σ H Q := by
  refine ⟨c, ρ, T, tv, s, ?_⟩
  unfold evI at h
  cases e : f ρ with
  | stuck => rw [e] at h; exact h
  | ex x ρ1 => rw [e] at h; exact h
  | ok d ρ1 =>
    rw [e] at h
    have h : GPost m W p c T σ tv H (fun i H' => Q (.int i) H') (match asInt d with
      | some i => R.ok i ρ1
      | none => R.stuck) := h
    cases e2 : asInt d with
    | none => rw [e2] at h; exact h.elim
    | some i =>
      rw [e2] at h
      have ed := asInt_of e2
      subst ed
      intro v H1 s1 k1
      rw [s1.topV]
      exact h H1 s1.pop k1
theorem tZ_bl {Q : VK} (s : ZS m c ρ T σ tv H) (h : GPost m W p c T σ tv H (fun i H' => Q (.bl i) H') (evB f ρ)) : tZ m W p f σ H Q := by
  refine ⟨c, ρ, T, tv, s, ?_⟩
  unfold evB at h
  cases e : f ρ with
  | stuck => rw [e] at h; exact h
  | ex x ρ1 => rw [e] at h; exact h
  | ok d ρ1 =>
    rw [e] at h
    have h : GPost m W p c T σ tv H (fun i H' => Q (.bl i) H') (match asBl d with
      | some i => R.ok i ρ1
      | none => R.stuck) := h
    cases e2 : asBl d with
    | none => rw [e2] at h; exact h.elim
    | some i =>
      rw [e2] at h
      have ed := asBl_of e2
      subst ed
      intro v H1 s1 k1
      rw [s1.topV]
      exact h H1 s1.pop k1
end

/-! ### tests -/
abbrev TF := Env → R Bool
def tT (m : M) (W : WX) (f : TF) : TT := fun σ H Q => ∃ c ρ T tv, ZS m c ρ T σ tv H ∧ GPost m W false c T σ tv H Q (f ρ)
abbrev ZT (X : Cx) (W : WX) (e : Expr) (f : TF) : Prop := PT X e (tT (mOf X) W f)
abbrev ZW (X : Cx) (W : WX) (e : Expr) (f : TF) : Prop := PW X e (tT (mOf X) W f)
theorem pwImp {X : Cx} {e : Expr} {t t' : TT} (h : PW X e t) (k : ∀ σ H Q, t' σ H Q → t σ H Q) : PW X e t' := ⟨fun wh pins s σ H Q I q => h.run wh pins s σ H Q I (k σ H Q q)⟩
theorem GPost.weak {α : Type} {m : M} {W : WX} {p : Bool} {c : Cz} {T : List D} {σ : Sl} {tv : List V} {H : Hp} {Q : α → Hp → Prop} {r : R α} (h : GPost m W false c T σ tv H Q r) : GPost m W p c T σ tv H Q r := by
  cases r with
  | stuck => exact h
  | ex x ρ => exact h
  | ok a ρ => exact fun H' s _ => h H' s fun z => nomatch z
def tAndF (f g : TF) : TF := fun ρ => (f ρ).bind fun b ρ' => if b = true then g ρ' else .ok false ρ'
def tOrF (f g : TF) : TF := fun ρ => (f ρ).bind fun b ρ' => if b = true then .ok true ρ' else g ρ'
def tNotF (f : TF) : TF := fun ρ => (f ρ).bind fun b ρ' => .ok (!b) ρ'
section
variable {X : Cx} {W : WX} {pos : Pos} {p p1 p2 p3 : Bool} {a b e : Expr} {es rest : List Expr} {f g f1 f2 f3 : EF} {tf tg : TF}
/-- an expression with a bool, as a test -/
theorem zt_val (h : ZE X W p e f) (he : ∀ whole, isTrue e X.env whole = (do let v ← whole; standAt e.pos; holding [v] (truthy v)) := by intro _; rfl) : ZT X W e (evB f) :=
  ptImp (pt_val h he) fun σ H Q ⟨c, ρ, T, tv, s, q⟩ => tZ_bl (Q := fun x H1 => ∃ c, x = .bl c ∧ Q c H1) s (by
    have q := GPost.weak (p := p) q
    cases e : evB f ρ with
    | stuck => rw [e] at q; exact q
    | ex x ρ1 => rw [e] at q; exact q
    | ok b ρ1 => rw [e] at q; exact fun H' s' k => ⟨b, rfl, q H' s' k⟩)
/-- a comparison as a test -/
theorem zt_cmp {op : CmpOp} {r : R2} {o1 o2 : Opd} {g : List D → Option D} {c : Expr} (ho : OpR X (compareOp op) r) (lr : LR (mOf X) (lift2 r) g) (ha : ZO X W p1 a o1) (hb : ZO X W p2 b o2) (hm : behindInMarks op b = false) : ZT X W (.Compare a [op] [b] pos) (evB (zOps g [o1, o2])) :=
  ptImp (pt_cmpR ho ha hb hm) fun σ H Q ⟨c, ρ, T, tv, s, q⟩ => by
    have q := GPost.weak (p := [(p1, o1), (p2, o2)].all (·.1)) q
    refine ops_run (m := mOf X) (W := W) (pos := [(p1, o1), (p2, o2)]) lr s (Q := fun x H' => ∃ k, x = .bl k ∧ Q k H') ?_
    unfold evB at q
    have q : GPost (mOf X) W ([(p1, o1), (p2, o2)].all (·.1)) c T σ tv H Q ((zOps g [o1, o2] ρ).bind fun d ρ' => match asBl d with
      | some i => R.ok i ρ'
      | none => R.stuck) := q
    show ZPost (mOf X) W _ c T σ tv H _ (zOps g [o1, o2] ρ)
    cases e : zOps g [o1, o2] ρ with
    | stuck => rw [e] at q; exact q
    | ex x ρ1 => rw [e] at q; exact q
    | ok d ρ1 =>
      rw [e] at q
      have q : GPost (mOf X) W ([(p1, o1), (p2, o2)].all (·.1)) c T σ tv H Q (match asBl d with
        | some i => R.ok i ρ1
        | none => R.stuck) := q
      cases e2 : asBl d with
      | none => rw [e2] at q; exact q.elim
      | some i =>
        rw [e2] at q
        have ed := asBl_of e2
        subst ed
        intro v H1 s1 k1
        exact ⟨i, s1.topV, q H1 s1.pop k1⟩
theorem GPost.bindT {α β : Type} {m : M} {c : Cz} {T : List D} {σ : Sl} {tv : List V} {H : Hp} {Q : β → Hp → Prop} {r : R α} {k : α → Env → R β} (h : GPost m W false c T σ tv H Q (r.bind k)) :
    GPost m W false c T σ tv H (fun a H' => ∃ ρ', ZS m c ρ' T σ tv H' ∧ GPost m W false c T σ tv H' Q (k a ρ')) r := by
  cases r with
  | stuck => exact h
  | ex x ρ => exact h
  | ok a ρ =>
    intro H' s' _
    refine ⟨ρ, s', ?_⟩
    have h : GPost m W false c T σ tv H Q (k a ρ) := h
    cases e : k a ρ with
    | stuck => rw [e] at h; exact h
    | ex x ρ1 => rw [e] at h; exact h
    | ok b ρ1 => rw [e] at h; exact fun H1 s1 z => h H1 s1 fun z => nomatch z
theorem zw_and1 (ha : ZT X W a tf) : ZW X W (.BoolOp .And [a] pos) tf := pw_and1 ha
theorem zw_or1 (ha : ZT X W a tf) : ZW X W (.BoolOp .Or [a] pos) tf := pw_or1 ha
theorem zw_and (ha : ZT X W a tf) (hb : ZW X W (.BoolOp .And (b :: rest) pos) tg) : ZW X W (.BoolOp .And (a :: b :: rest) pos) (tAndF tf tg) :=
  pwImp (pw_and ha hb) fun σ H Q ⟨c, ρ, T, tv, s, q⟩ => by
    refine ⟨c, ρ, T, tv, s, ?_⟩
    have q := GPost.bindT q
    cases e : tf ρ with
    | stuck => rw [e] at q; exact q
    | ex x ρ1 => rw [e] at q; exact q
    | ok d ρ1 =>
      rw [e] at q
      intro H1 s1 k1
      obtain ⟨ρ', s2, q2⟩ := q H1 s1 k1
      cases d with
      | true => exact ⟨c, ρ', T, tv, s2, q2⟩
      | false => exact q2 H1 s2 fun z => nomatch z
theorem zw_or (ha : ZT X W a tf) (hb : ZW X W (.BoolOp .Or (b :: rest) pos) tg) : ZW X W (.BoolOp .Or (a :: b :: rest) pos) (tOrF tf tg) :=
  pwImp (pw_or ha hb) fun σ H Q ⟨c, ρ, T, tv, s, q⟩ => by
    refine ⟨c, ρ, T, tv, s, ?_⟩
    have q := GPost.bindT q
    cases e : tf ρ with
    | stuck => rw [e] at q; exact q
    | ex x ρ1 => rw [e] at q; exact q
    | ok d ρ1 =>
      rw [e] at q
      intro H1 s1 k1
      obtain ⟨ρ', s2, q2⟩ := q H1 s1 k1
      cases d with
      | true => exact q2 H1 s2 fun z => nomatch z
      | false => exact ⟨c, ρ', T, tv, s2, q2⟩
theorem zt_w (h : ZW X W e tf) : ZT X W e tf := h.pt
theorem zt_not (ha : ZT X W a tf) : ZT X W (.UnaryOp .Not a pos) (tNotF tf) :=
  ptImp (pt_not ha) fun σ H Q ⟨c, ρ, T, tv, s, q⟩ => by
    refine ⟨c, ρ, T, tv, s, ?_⟩
    have q := GPost.bindT q
    cases e : tf ρ with
    | stuck => rw [e] at q; exact q
    | ex x ρ1 => rw [e] at q; exact q
    | ok d ρ1 =>
      rw [e] at q
      intro H1 s1 k1
      obtain ⟨ρ', s2, q2⟩ := q H1 s1 k1
      exact q2 H1 s2 fun z => nomatch z

/-! ### the same as values -/
def zAnd (f g : EF) : EF := fun ρ => (evB f ρ).bind fun b ρ' => if b = true then g ρ' else .ok (.at (.bl false)) ρ'
def zOr (f g : EF) : EF := fun ρ => (evB f ρ).bind fun b ρ' => if b = true then .ok (.at (.bl true)) ρ' else g ρ'
def zNot (f : EF) : EF := fun ρ => (evB f ρ).bind fun b ρ' => .ok (.at (.bl (!b))) ρ'
def zIf (t : TF) (f g : EF) : EF := fun ρ => (t ρ).bind fun b ρ' => if b = true then f ρ' else g ρ'
theorem ZPost.weak {m : M} {p : Bool} {c : Cz} {T : List D} {σ : Sl} {tv : List V} {H : Hp} {Q : VK} {r : R D} (h : ZPost m W false c T σ tv H Q r) : ZPost m W p c T σ tv H Q r := by
  cases r with
  | stuck => exact h
  | ex x ρ => exact h
  | ok a ρ => exact fun v H' s _ => h v H' s fun z => nomatch z
theorem ZPost.bind {α : Type} {m : M} {c : Cz} {T : List D} {σ : Sl} {tv : List V} {H : Hp} {Q : VK} {r : R α} {k : α → EF} (h : ZPost m W false c T σ tv H Q (r.bind k)) :
    GPost m W false c T σ tv H (fun a H' => ∃ ρ', ZS m c ρ' T σ tv H' ∧ ZPost m W false c T σ tv H' Q (k a ρ')) r := by
  cases r with
  | stuck => exact h
  | ex x ρ => exact h
  | ok a ρ =>
    intro H' s' _
    refine ⟨ρ, s', ?_⟩
    have h : ZPost m W false c T σ tv H Q (k a ρ) := h
    cases e : k a ρ with
    | stuck => rw [e] at h; exact h
    | ex x ρ1 => rw [e] at h; exact h
    | ok b ρ1 => rw [e] at h; exact fun v H1 s1 z => h v H1 s1 fun z => nomatch z
theorem GPost.mono {α : Type} {m : M} {p : Bool} {c : Cz} {T : List D} {σ : Sl} {tv : List V} {H : Hp} {Q Q' : α → Hp → Prop} {r : R α} (h : GPost m W p c T σ tv H Q r) (k : ∀ a H', Q a H' → Q' a H') : GPost m W p c T σ tv H Q' r := by
  cases r with
  | stuck => exact h
  | ex x ρ => exact h
  | ok a ρ => exact fun H' s z => k a H' (h H' s z)
theorem and_aux {c : Cz} {ρ : Env} {T : List D} {σ : Sl} {tv : List V} {H : Hp} {Q : VK} (s : ZS (mOf X) c ρ T σ tv H) (q : ZPost (mOf X) W false c T σ tv H Q (zAnd f1 f2 ρ)) : tAndV (tZ (mOf X) W p1 f1) (tZ (mOf X) W p2 f2) σ H Q := by
  refine tZ_bl s ?_
  refine ((ZPost.bind q).weak).mono fun b H1 ⟨ρ', s', q'⟩ => ⟨b, rfl, ?_⟩
  cases b with
  | true => rw [if_pos rfl]; exact ⟨c, ρ', T, tv, s', q'.weak⟩
  | false => rw [if_neg Bool.false_ne_true]; exact q' _ _ (s'.pushA (.bl false)) fun z => nomatch z
theorem ze_and (ha : ZE X W p1 a f1) (hb : ZE X W p2 (.BoolOp .And (b :: rest) pos) f2) : ZE X W false (.BoolOp .And (a :: b :: rest) pos) (zAnd f1 f2) :=
  peImp (pe_and ha hb) fun σ H Q ⟨c, ρ, T, tv, s, q⟩ => and_aux s q
theorem ze_one {op : BoolOp} (ha : ZE X W p1 a f1) : ZE X W p1 (.BoolOp op [a] pos) f1 := pe_one ha
theorem not_aux {c : Cz} {ρ : Env} {T : List D} {σ : Sl} {tv : List V} {H : Hp} {Q : VK} (s : ZS (mOf X) c ρ T σ tv H) (q : ZPost (mOf X) W false c T σ tv H Q (zNot f1 ρ)) : tNotV (tZ (mOf X) W p1 f1) σ H Q := by
  refine tZ_bl s ?_
  refine ((ZPost.bind q).weak).mono fun b H1 ⟨ρ', s', q'⟩ => ⟨b, rfl, ?_⟩
  exact q' _ _ (s'.pushA (.bl (!b))) fun z => nomatch z
theorem ze_not (ha : ZE X W p1 a f1) : ZE X W false (.UnaryOp .Not a pos) (zNot f1) :=
  peImp (pe_not ha) fun σ H Q ⟨c, ρ, T, tv, s, q⟩ => not_aux s q
theorem ze_if {c : Expr} (hc : ZT X W c tf) (ha : ZE X W p1 a f1) (hb : ZE X W p2 b f2) : ZE X W false (.IfExp c a b pos) (zIf tf f1 f2) :=
  peImp (pe_ifExp hc ha hb) fun σ H Q ⟨c, ρ, T, tv, s, q⟩ => by
    refine ⟨c, ρ, T, tv, s, ?_⟩
    refine (ZPost.bind q).mono fun b H1 ⟨ρ', s', q'⟩ => ?_
    cases b with
    | true => rw [if_pos rfl]; exact ⟨c, ρ', T, tv, s', q'.weak⟩
    | false => rw [if_neg Bool.false_ne_true]; exact ⟨c, ρ', T, tv, s', q'.weak⟩
/-- a op1 b op2 c, of ints -/
def zChain (u w : Int → Int → Bool) (f1 f2 f3 : EF) : EF := fun ρ => (evI f1 ρ).bind fun i ρ1 => (evI f2 ρ1).bind fun j ρ2 => if u i j = true then (evI f3 ρ2).bind fun k ρ3 => .ok (.at (.bl (w j k))) ρ3 else .ok (.at (.bl false)) ρ2
end

/-! ### len -/
def gLen : List D → Option D
  | [.nd (.lst _) xs] => some (.at (.int xs.length))
  | [.nd .tup xs] => some (.at (.int xs.length))
  | [.nd .scr xs] => some (.at (.int xs.length))
  | [.at (.str z)] => if z.length ≤ sizeLine then some (.at (.int z.length)) else none
  | [.nd (.dn _ ks) xs] => some (.at (.int xs.length))
  | _ => none
def rLenAll (P : Program) (w : World) (K : PySem.W.Frag) : List V → Hp → VK → Prop := fun xs H Q => (∃ p ys, xs = [.ref p] ∧ (SqL K H p ys ∨ SqT K H p ys) ∧ Q (.int ys.length) H) ∨ (∃ z, xs = [.str z] ∧ z.length ≤ sizeLine ∧ Q (.int z.length) H) ∨
  ∃ a es, xs = [.ref a] ∧ DnI P w H a es ∧ KOk K H es ∧ (a == sysModules) = false ∧ es.length ≤ sizeLine ∧ Q (.int es.length) H
theorem call_lenDn {X : Cx} : CallR X (.builtin "len") (fun xs H Q => ∃ a es, xs = [.ref a] ∧ DnI X.prog X.w H a es ∧ KOk X.K H es ∧ (a == sysModules) = false ∧ es.length ≤ sizeLine ∧ Q (.int es.length) H) := by
  intro pins s σ H xs us Q I r h
  obtain ⟨a, es, rfl, e1, e2, e3, e4, q⟩ := h
  obtain ⟨u, rfl, ru⟩ := vals1 r
  cases (show u = Value.ref a from ru)
  obtain ⟨ys, r1, d⟩ := dn_of I e1 e2
  have hl := Paired.length r1
  have hn := line63
  have hm : s.heap.DictKeyed (nestedKind X.prog X.w) a (pairsH ys) := ⟨ys, d, rfl⟩
  exact PyProof.Rows.call_len_slot (n := (pairsH ys).length) hm.typeIs PySem.F.slot_dict_len (fun Q' hq => len_keyed e3 hm hq) (by omega) (by rw [pairsH_length]; omega) ⟨.int (pairsH ys).length, H, I.tok _, ⟨_, rfl⟩, by rw [pairsH_length, ← hl]; exact q⟩
theorem call_lenAll {X : Cx} : CallR X (.builtin "len") (rLenAll X.prog X.w X.K) := call_len_seq.or (call_len_str.or call_lenDn)
theorem lr_len {m : M} : LR m (rLenAll m.P m.w m.K) gLen := by
  intro F H vs ds A d Q sm rs hg y
  unfold gLen at hg
  split at hg
  · obtain ⟨x1, rfl, _, r1⟩ := reps1 rs
    cases hg
    obtain ⟨a, ws, B, rfl, e, r3⟩ := rep_lst r1 sm
    exact .inl ⟨a, ws, rfl, .inl (SqL.of e), by rw [r3.length]; exact y.atom sm⟩
  · obtain ⟨x1, rfl, _, r1⟩ := reps1 rs
    cases hg
    obtain ⟨a, ws, B, rfl, e, r3⟩ := rep_tup r1
    exact .inl ⟨a, ws, rfl, .inr (Same.sqT sm e), by rw [r3.length]; exact y.atom sm⟩
  · obtain ⟨x1, rfl, _, r1⟩ := reps1 rs
    cases hg
    obtain ⟨a, ws, B, rfl, e, r3⟩ := rep_scr r1
    exact .inl ⟨a, ws, rfl, .inl (Same.seq sm e), by rw [r3.length]; exact y.atom sm⟩
  · obtain ⟨x1, rfl, _, r1⟩ := reps1 rs
    split at hg
    · rename_i hz
      cases hg
      exact .inr (.inl ⟨_, by rw [rep_at r1]; rfl, hz, y.atom sm⟩)
    · cases hg
  · obtain ⟨x1, rfl, _, r1⟩ := reps1 rs
    cases hg
    obtain ⟨a, ws, B, rfl, ⟨es, e1, e2, e3, e4, e5, e6⟩, r3⟩ := rep_dn r1 sm
    have hl : es.length = ws.length := by rw [← e2, List.length_map]
    refine .inr (.inr ⟨a, es, rfl, e3, e4, e5, ?_, ?_⟩)
    · rw [← List.length_map (f := (·.1)) (as := es), e1]; exact e6.1
    · rw [hl, r3.length]; exact y.atom sm
  · cases hg
section
variable {X : Cx} {W : WX} {pos p : Pos} {p1 p2 : Bool} {o1 o2 : Opd} {a b : Expr}
theorem ze_len (hg : Gl X "len") (hm : X.mg "len" = none) (ha : ZO X W p1 a o1) (he : starEach [a] X.env = (false, eval a X.env) :: starEach [] X.env := by rfl) : ZE X W (p1 && true) (.Call (.Name "len" p) [a] [] pos) (zOps gLen [o1]) :=
  ze_callB call_lenAll lr_len hg hm PySem.boot_len (zos_cons ha zos_nil he) (he := he)
end
end Z

set_option Elab.async false
set_option linter.all false
set_option maxRecDepth 100000
set_option maxHeartbeats 4000000
/-! Z7: statements: blocks, names, targets, if, while, for. -/
namespace Z
open PySem PySem.Spec PyProof.Rows L2

inductive Fl where
  | nx | bk | ct
  | rt (d : D)
abbrev SF := Env → R Fl
def SPost (m : M) (W : WX) (c : Cz) (T : List D) (tv : List V) (E : Ends) : R Fl → Prop
  | .ok .nx ρ' => ∀ σ' H', ZS m c ρ' T σ' tv H' → E.nx σ' H'
  | .ok .bk ρ' => ∀ σ' H', ZS m c ρ' T σ' tv H' → E.bk σ' H'
  | .ok .ct ρ' => ∀ σ' H', ZS m c ρ' T σ' tv H' → E.ct σ' H'
  | .ok (.rt d) ρ' => ∀ v σ' H', ZS m c ρ' (d :: T) σ' (v :: tv) H' → E.rt v H'
  | .ex e ρ' => ∀ cls dx σ' H', ExR m c.H H' cls dx e → ZS m c ρ' T σ' tv H' → W cls dx σ' H'
  | .stuck => False
def Kp (c : Cz) (kp : List Nat) : Prop := ∀ p ∈ c.par, p.1 ∈ kp
def tS (m : M) (W : WX) (kp : List Nat) (f : SF) : TS := fun E σ H => ∃ c ρ T tv, Kp c kp ∧ ZS m c ρ T σ tv H ∧ SPost m W c T tv E (f ρ)
abbrev ZSt (X : Cx) (W : WX) (kp : List Nat) (st : Stmt) (f : SF) : Prop := PS X st (tS (mOf X) W kp f)
abbrev ZB (X : Cx) (W : WX) (kp : List Nat) (st : List Stmt) (f : SF) : Prop := PSs X st (tS (mOf X) W kp f)
def zNx : SF := fun ρ => .ok .nx ρ
def zSeq (f g : SF) : SF := fun ρ => (f ρ).bind fun fl ρ' => match fl with
  | .nx => g ρ'
  | x => .ok x ρ'
def zEx (f : EF) : SF := fun ρ => (f ρ).bind fun _ ρ' => .ok .nx ρ'
def zRet (f : EF) : SF := fun ρ => (f ρ).bind fun d ρ' => .ok (.rt d) ρ'
def zIfS (t : TF) (f g : SF) : SF := fun ρ => (t ρ).bind fun b ρ' => if b = true then f ρ' else g ρ'
section
variable {X : Cx} {W : WX} {kp : List Nat} {pos : Pos} {p : Bool} {e : Expr} {st : Stmt} {rest a b : List Stmt} {f g : SF} {ef : EF}
theorem SPost.bind {α : Type} {m : M} {c : Cz} {T : List D} {σ : Sl} {tv : List V} {H : Hp} {E : Ends} {r : R α} {k : α → SF} (h : SPost m W c T tv E (r.bind k)) :
    GPost m W false c T σ tv H (fun a H' => ∃ ρ', ZS m c ρ' T σ tv H' ∧ SPost m W c T tv E (k a ρ')) r := by
  cases r with
  | stuck => exact h
  | ex x ρ => exact fun cls dx H' z s => h cls dx σ H' z s
  | ok a ρ => exact fun H' s' _ => ⟨ρ, s', h⟩
theorem zb_nil : ZB X W kp [] zNx := pssImp pss_nil fun E σ H ⟨c, ρ, T, tv, k, s, q⟩ => q σ H s
theorem seq_post {m : M} {c : Cz} {T : List D} {tv : List V} {E : Ends} {ρ : Env} (k : Kp c kp) (h : SPost m W c T tv E (zSeq f g ρ)) : SPost m W c T tv { E with nx := tS m W kp g E } (f ρ) := by
  unfold zSeq at h
  cases e : f ρ with
  | stuck => rw [e] at h; exact h
  | ex x ρ => rw [e] at h; exact h
  | ok fl ρ1 =>
    rw [e] at h
    cases fl with
    | nx => exact fun σ' H' s => ⟨c, ρ1, T, tv, k, s, h⟩
    | bk => exact h
    | ct => exact h
    | rt d => exact h
theorem zb_cons (h1 : ZSt X W kp st f) (h2 : ZB X W kp rest g) : ZB X W kp (st :: rest) (zSeq f g) :=
  pssImp (pss_cons h1 h2) fun E σ H ⟨c, ρ, T, tv, k, s, q⟩ => ⟨c, ρ, T, tv, k, s, seq_post k q⟩
theorem zb_one (h1 : ZSt X W kp st f) : ZB X W kp [st] f := pss_one h1
theorem zs_expr (he : ZE X W p e ef) (hs : swapsWith e none pos.line X.env = pure false := by rfl) : ZSt X W kp (.Expr e pos) (zEx ef) :=
  psImp (ps_expr he hs) fun E σ H ⟨c, ρ, T, tv, k, s, q⟩ => by
    refine ⟨c, ρ, T, tv, s, ?_⟩
    unfold zEx at q
    cases e2 : ef ρ with
    | stuck => rw [e2] at q; exact q
    | ex x ρ1 => rw [e2] at q; exact fun cls dx H' z s' => q cls dx σ H' z s'
    | ok d ρ1 => rw [e2] at q; exact fun v H' s' _ => q σ H' s'.pop
theorem zs_ret (he : ZE X W p e ef) : ZSt X W kp (.Return (some e) pos) (zRet ef) :=
  psImp (ps_ret he) fun E σ H ⟨c, ρ, T, tv, k, s, q⟩ => by
    refine ⟨c, ρ, T, tv, s, ?_⟩
    unfold zRet at q
    cases e2 : ef ρ with
    | stuck => rw [e2] at q; exact q
    | ex x ρ1 => rw [e2] at q; exact fun cls dx H' z s' => q cls dx σ H' z s'
    | ok d ρ1 => rw [e2] at q; exact fun v H' s' _ => q v σ H' s'
theorem zs_if {cnd : Expr} {tf : TF} (hc : ZT X W cnd tf) (ha : ZB X W kp a f) (hb : ZB X W kp b g) : ZSt X W kp (.If cnd a b pos) (zIfS tf f g) :=
  psImp (ps_if hc ha hb) fun E σ H ⟨c, ρ, T, tv, k, s, q⟩ => by
    refine ⟨c, ρ, T, tv, s, ?_⟩
    refine (SPost.bind q).mono fun b H1 ⟨ρ', s', q'⟩ => ?_
    cases b with
    | true => rw [if_pos rfl]; exact ⟨c, ρ', T, tv, k, s', q'⟩
    | false => rw [if_neg Bool.false_ne_true]; exact ⟨c, ρ', T, tv, k, s', q'⟩
end

/-! ### targets -/
abbrev TgF := D → Env → Option Env
def tgN (i : Nat) : TgF := fun d ρ => if i < ρ.length then some (ρ.set i (some d)) else none
def tgL : List TgF → List D → Env → Option Env
  | [], [], ρ => some ρ
  | g :: gs, d :: ds, ρ => (g d ρ).bind fun ρ' => tgL gs ds ρ'
  | _, _, _ => none
def tgT (gs : List TgF) : TgF := fun d ρ => match d with
  | .nd .tup ds => tgL gs ds ρ
  | _ => none
def tgLs (gs : List TgF) : TgF := fun d ρ => match d with
  | .nd (.lst _) ds => tgL gs ds ρ
  | _ => none
def GoPost (m : M) (c : Cz) (T : List D) (tv : List V) (Q : Sl → Hp → Prop) : Option Env → Prop
  | some ρ' => ∀ σ' H', ZS m c ρ' T σ' tv H' → Q σ' H'
  | none => False
def gZ (m : M) (kp : List Nat) (g : TgF) : TG := fun v σ H Q => ∃ c ρ T tv d, Kp c kp ∧ ZS m c ρ (d :: T) σ (v :: tv) H ∧ GoPost m c T tv Q (g d ρ)
def gZs (m : M) (kp : List Nat) (gs : List TgF) : TGs := fun vs σ H Q => ∃ c ρ T tv ds, Kp c kp ∧ ds.length = vs.length ∧ ZS m c ρ (ds ++ T) σ (vs ++ tv) H ∧ GoPost m c T tv Q (tgL gs ds ρ)
abbrev ZG (X : Cx) (kp : List Nat) (t : Expr) (g : TgF) : Prop := PG X t (gZ (mOf X) kp g)
abbrev ZGs (X : Cx) (kp : List Nat) (ts : List Expr) (gs : List TgF) : Prop := PGs X ts (gZs (mOf X) kp gs)
theorem pgImp {X : Cx} {e : Expr} {t t' : TG} (h : PG X e t) (k : ∀ v σ H Q, t' v σ H Q → t v σ H Q) : PG X e t' := ⟨fun pins s σ H v u Q I r q => h.run pins s σ H v u Q I r (k v σ H Q q)⟩
theorem pgsImp {X : Cx} {e : List Expr} {t t' : TGs} (h : PGs X e t) (k : ∀ v σ H Q, t' v σ H Q → t v σ H Q) : PGs X e t' := ⟨fun pins s σ H v u Q I r q => h.run pins s σ H v u Q I r (k v σ H Q q)⟩
section
variable {m : M} {c : Cz} {ρ : Env} {T : List D} {σ : Sl} {tv : List V} {H F : Hp} {A B : List Addr}
theorem ZS.untup {ds : List D} {v : V} (s : ZS m c ρ (.nd .tup ds :: T) σ (v :: tv) H) : ∃ a vs, v = .ref a ∧ SqT m.K H a vs ∧ ds.length = vs.length ∧ ZS m c ρ (ds ++ T) σ (vs ++ tv) H := by
  obtain ⟨F, A, B, s⟩ := s
  cases id s.tm with
  | cons h r =>
    rename_i B1 B2
    cases h with
    | fz h1 h2 h3 h4 => exact ⟨_, _, rfl, Same.sqT s.sub h2, h3.length.symm, F, A, B1 ++ B2, s.tmPerm (h3.append r) ⟨[], List.Perm.refl _⟩⟩
    | ow h1 h2 h3 => exact h2.elim
end
section
variable {X : Cx} {W : WX} {kp : List Nat} {pos : Pos} {p : Bool} {t : Expr} {ts : List Expr} {g : TgF} {gs : List TgF}
theorem zg_name {i : Nat} (h : PG X t (gName i)) (hk : i ∉ kp) : ZG X kp t (tgN i) := pgImp h fun v σ H Q ⟨c, ρ, T, tv, d, k, s, q⟩ => by
  unfold tgN at q
  split at q
  · rename_i hi
    exact q _ _ (s.store hi fun p hp e => hk (e ▸ k p hp))
  · exact q.elim
theorem zgs_nil : ZGs X kp [] [] := pgsImp pgs_nil fun vs σ H Q ⟨c, ρ, T, tv, ds, k, hl, s, q⟩ => by
  cases ds with
  | nil =>
    have e : vs = [] := List.eq_nil_of_length_eq_zero hl.symm
    subst e
    exact ⟨rfl, q σ _ s⟩
  | cons d ds => exact q.elim
theorem zgs_cons (h1 : ZG X kp t g) (h2 : ZGs X kp ts gs) (hs : (assignEach (t :: ts) X.env).map (·.2) = assign t X.env :: (assignEach ts X.env).map (·.2) := by rfl) : ZGs X kp (t :: ts) (g :: gs) :=
  pgsImp (pgs_cons h1 h2 hs) fun vs σ H Q ⟨c, ρ, T, tv, ds, k, hl, s, q⟩ => by
    cases ds with
    | nil => exact q.elim
    | cons d ds =>
      cases vs with
      | nil => simp at hl
      | cons v vs =>
        refine ⟨v, vs, rfl, c, ρ, ds ++ T, vs ++ tv, d, k, s, ?_⟩
        have q : GoPost (mOf X) c T tv Q ((g d ρ).bind fun ρ' => tgL gs ds ρ') := q
        cases e : g d ρ with
        | none => rw [e] at q; exact q
        | some ρ' =>
          rw [e] at q
          exact fun σ' H' s' => ⟨c, ρ', T, tv, ds, k, by simpa using hl, s', q⟩
theorem tgL_len : ∀ {gs : List TgF} {ds : List D} {ρ ρ' : Env}, tgL gs ds ρ = some ρ' → ds.length = gs.length
  | [], [], _, _, _ => rfl
  | g :: gs, d :: ds, ρ, ρ', h => by
    rw [tgL] at h
    obtain ⟨ρ1, h1, h2⟩ := Option.bind_eq_some_iff.mp h
    rw [List.length_cons, List.length_cons, tgL_len h2]
  | [], _ :: _, _, _, h => by simp [tgL] at h
  | _ :: _, [], _, _, h => by simp [tgL] at h
theorem zg_tup {k0 n : Nat} (hc : X.calm = true) (h : ZGs X kp ts gs) (hn : (assignEach ts X.env).length = n := by rfl) (hst : (assignEach ts X.env).findIdx? (·.1) = none := by rfl) (hl : gs.length = n := by rfl) : ZG X kp (.Tuple ts k0 pos) (tgT gs) :=
  pgImp (pg_tup hc h hn hst) fun v σ H Q ⟨c, ρ, T, tv, d, k, s, q⟩ => by
    unfold tgT at q
    split at q
    · rename_i ds
      obtain ⟨a, vs, rfl, h1, h2, s'⟩ := s.untup
      cases e : tgL gs ds ρ with
      | none => rw [e] at q; exact q.elim
      | some ρ' => exact ⟨a, vs, rfl, h1, by rw [← h2, tgL_len e, hl], c, ρ, T, tv, ds, k, h2, s', q⟩
    · exact q.elim
end

/-! ### assignments -/
def zSet (g : TgF) (f : EF) : SF := fun ρ => (f ρ).bind fun d ρ' => match g d ρ' with
  | some r => .ok .nx r
  | none => .stuck
def zPar (is : List Nat) (fs : List EF) : SF := fun ρ => (evL fs ρ).bind fun ds ρ' => match tgL (is.map tgN) ds ρ' with
  | some r => .ok .nx r
  | none => .stuck
section
variable {X : Cx} {W : WX} {kp : List Nat} {pos : Pos} {p : Bool} {t : Expr} {ts : List Expr} {g : TgF} {gs : List TgF} {st : Stmt} {f : EF}
theorem zs_asg {gg : TG} (h : PS X st (tAsg (tZ (mOf X) W p f) gg)) (hg : ∀ v σ H Q, gZ (mOf X) kp g v σ H Q → gg v σ H Q) : ZSt X W kp st (zSet g f) :=
  psImp h fun E σ H ⟨c, ρ, T, tv, k, s, q⟩ => by
    refine ⟨c, ρ, T, tv, s, ?_⟩
    unfold zSet at q
    cases e : f ρ with
    | stuck => rw [e] at q; exact q
    | ex x ρ1 => rw [e] at q; exact fun cls dx H' z s' => q cls dx σ H' z s'
    | ok d ρ1 =>
      rw [e] at q
      intro v H' s' _
      refine hg _ _ _ _ ⟨c, ρ1, T, tv, d, k, s', ?_⟩
      have q : SPost (mOf X) W c T tv E (match g d ρ1 with
        | some r => R.ok Fl.nx r
        | none => R.stuck) := q
      cases e2 : g d ρ1 with
      | none => rw [e2] at q; exact q
      | some r => rw [e2] at q; exact fun σ' H' s2 => q σ' H' s2
/-- name = e -/
theorem zs_set {i : Nat} (h : PS X st (tAsg (tZ (mOf X) W p f) (gName i))) (hk : i ∉ kp) : ZSt X W kp st (zSet (tgN i) f) := zs_asg h fun v σ H Q ⟨c, ρ, T, tv, d, k, s, q⟩ => by
  unfold tgN at q
  split at q
  · rename_i hi
    exact q _ _ (s.store hi fun p hp e => hk (e ▸ k p hp))
  · exact q.elim
/-- a target = e -/
theorem zs_tgt (he : ZE X W p t f) {tg : Expr} (hg : ZG X kp tg g) (hs : swapsWithSole [tg] t pos.line X.env = pure false := by rfl) (hw : swappedStores [tg] t X.env = pure none := by rfl) (h1 : (assignEach [tg] X.env).map (·.2) = [assign tg X.env] := by rfl) : ZSt X W kp (.Assign [tg] t pos) (zSet g f) :=
  zs_asg (ps_asg he hg hs hw h1) fun _ _ _ _ q => q
theorem par_run {m : M} {c : Cz} {ρ : Env} {T : List D} {tv : List V} {σ : Sl} {H : Hp} {E : Ends} {pos : List (Bool × Opd)} {fs : List EF} {is : List Nat} {Q : List V → Hp → Prop} (e : pos.map (·.2) = fs.map Opd.v) (s : ZS m c ρ T σ tv H) (q : SPost m W c T tv E (zPar is fs ρ))
    (k : ∀ ds ρ' vs H', ZS m c ρ' (ds ++ T) σ (vs ++ tv) H' → ds.length = vs.length → GoPost m c T tv E.nx (tgL (is.map tgN) ds ρ') → Q vs H') : tOs m W pos σ H Q := by
  refine tLs_run e s ?_
  unfold zPar at q
  cases e2 : evL fs ρ with
  | stuck => rw [e2] at q; exact q
  | ex x ρ1 => rw [e2] at q; exact fun cls dx H' z s' => q cls dx σ H' z s'
  | ok ds ρ1 =>
    rw [e2] at q
    intro vs H' s' hl _
    refine k ds ρ1 vs H' s' hl ?_
    have q : SPost m W c T tv E (match tgL (is.map tgN) ds ρ1 with
      | some r => R.ok Fl.nx r
      | none => R.stuck) := q
    cases e3 : tgL (is.map tgN) ds ρ1 with
    | none => rw [e3] at q; exact q
    | some r => rw [e3] at q; exact fun σ' H' s2 => q σ' H' s2
theorem tgN_of {i : Nat} {d : D} {ρ ρ' : Env} (h : tgN i d ρ = some ρ') : i < ρ.length ∧ ρ' = ρ.set i (some d) := by
  unfold tgN at h
  split at h
  · rename_i hi; cases h; exact ⟨hi, rfl⟩
  · cases h
theorem zs_par {i j : Nat} {pos : List (Bool × Opd)} {fs : List EF} (h : PS X st (tPar i j (tOs (mOf X) W pos))) (e : pos.map (·.2) = fs.map Opd.v := by rfl) (hi : i ∉ kp := by decide) (hj : j ∉ kp := by decide) : ZSt X W kp st (zPar [i, j] fs) :=
  psImp h fun E σ H ⟨c, ρ, T, tv, k, s, q⟩ => par_run e s q fun ds ρ' vs H' s' hl go => by
    match ds, vs, hl, s', go with
    | [d1, d2], [v1, v2], _, s', go =>
      refine ⟨v1, v2, rfl, ?_⟩
      have go : GoPost (mOf X) c T tv E.nx ((tgN i d1 ρ').bind fun r => (tgN j d2 r).bind fun r => some r) := go
      cases e1 : tgN i d1 ρ' with
      | none => rw [e1] at go; exact go.elim
      | some r1 =>
        rw [e1, Option.bind_some] at go
        cases e2 : tgN j d2 r1 with
        | none => rw [e2] at go; exact go.elim
        | some r2 =>
          rw [e2] at go
          obtain ⟨h1, rfl⟩ := tgN_of e1
          obtain ⟨h2, rfl⟩ := tgN_of e2
          exact go _ _ ((ZS.store (T := d2 :: T) (tv := v2 :: tv) s' h1 fun p hp e => hi (e ▸ k p hp)).store h2 fun p hp e => hj (e ▸ k p hp))
    | [], _, _, _, go => exact go.elim
    | [d], _, _, _, go =>
      have go : GoPost (mOf X) c T tv E.nx ((tgN i d ρ').bind fun r => none) := go
      cases e1 : tgN i d ρ' <;> rw [e1] at go <;> exact go.elim
    | d1 :: d2 :: d3 :: ds, _, _, _, go =>
      have go : GoPost (mOf X) c T tv E.nx ((tgN i d1 ρ').bind fun r => (tgN j d2 r).bind fun r => none) := go
      cases e1 : tgN i d1 ρ' with
      | none => rw [e1] at go; exact go.elim
      | some r1 =>
        rw [e1, Option.bind_some] at go
        cases e2 : tgN j d2 r1 <;> rw [e2] at go <;> exact go.elim
    | [_, _], [], h, _, _ => simp at h
    | [_, _], [_], h, _, _ => simp at h
    | [_, _], _ :: _ :: _ :: _, h, _, _ => simp at h
end

/-! ### while -/
section
variable {X : Cx} {W : WX} {kp : List Nat} {pos : Pos}
end

/-! ### for -/
def Yields (m : M) (ds : List D) (items : List D) (vs : List V) (J : It) : Prop := ∀ (c : Cz) (ρ : Env) (T : List D) (σ : Sl) (tv : List V) (H : Hp) (i : Nat), ZS m c ρ (ds ++ T) σ (vs ++ tv) H →
  (∀ x, items[i]? = some x → J.go i H ∧ ∀ xv H', J.yld i H xv H' → ZS m c ρ (x :: (ds ++ T)) σ (xv :: (vs ++ tv)) H') ∧ (items.length ≤ i → J.stop i H)
abbrev IF := Env → R (List D × List D)
def IPost (m : M) (W : WX) (c : Cz) (T : List D) (σ : Sl) (tv : List V) (Q : It → Hp → Prop) : R (List D × List D) → Prop
  | .ok (_, items) ρ' => ∀ (ds : List D) (vs : List V) H' J, ds.length = vs.length → ZS m c ρ' (ds ++ T) σ (vs ++ tv) H' → Yields m ds items vs J → Q J H'
  | .ex e ρ' => ∀ cls dx H', ExR m c.H H' cls dx e → ZS m c ρ' T σ tv H' → W cls dx σ H'
  | .stuck => False
def iZ (m : M) (W : WX) (src : IF) : TI := fun σ H Q => ∃ c ρ T tv, ZS m c ρ T σ tv H ∧ IPost m W c T σ tv Q (src ρ)
abbrev ZI (X : Cx) (W : WX) (tg it : Expr) (src : IF) : Prop := PI X tg it (iZ (mOf X) W src)
theorem piImp {X : Cx} {tg e : Expr} {t t' : TI} (h : PI X tg e t) (k : ∀ σ H Q, t' σ H Q → t σ H Q) : PI X tg e t' := ⟨fun pins s σ H R I q => h.run pins s σ H R I (k σ H R q)⟩
def forL (g : TgF) (b : SF) : List D → SF
  | [], ρ => .ok .nx ρ
  | x :: xs, ρ => match g x ρ with
    | some ρ1 => (b ρ1).bind fun fl ρ2 => match fl with
      | .nx => forL g b xs ρ2
      | .ct => forL g b xs ρ2
      | .bk => .ok .nx ρ2
      | .rt d => .ok (.rt d) ρ2
    | none => .stuck
def zFor (src : IF) (g : TgF) (b : SF) : SF := fun ρ => (src ρ).bind fun di ρ' => forL g b di.2 ρ'
section
variable {X : Cx} {W : WX} {kp : List Nat} {pos : Pos}
theorem zs_for {tg it : Expr} {body : List Stmt} {src : IF} {g : TgF} {b : SF} (hp : PassesOwn (model X.prog X.w) X.A X.env X.xe) (hc : X.calm = true) (hi : ZI X W tg it src) (hg : ZG X kp tg g) (hb : ZB X W kp body b)
    (hs : ∀ x, foldedSetIterable it X.env x = pure x := by intro _; rfl) : ZSt X W kp (.For tg it body [] pos) (zFor src g b) :=
  psImp (ps_for hp hc hi hg hb hs) fun E σ H ⟨c, ρ, T, tv, k, s, q⟩ => by
    refine ⟨c, ρ, T, tv, s, ?_⟩
    unfold zFor at q
    cases e : src ρ with
    | stuck => rw [e] at q; exact q
    | ex x ρ1 => rw [e] at q; exact fun cls dx H' z s' => q cls dx σ H' z s'
    | ok di ρ1 =>
      obtain ⟨ds0, items⟩ := di
      rw [e] at q
      have q : SPost (mOf X) W c T tv E (forL g b items ρ1) := q
      intro ds vs H1 J hlen s1 Y
      refine ⟨fun i n σ H => n = items.length - i ∧ i ≤ items.length ∧ ∃ ρ, ZS (mOf X) c ρ (ds ++ T) σ (vs ++ tv) H ∧ SPost (mOf X) W c T tv E (forL g b (items.drop i) ρ), ⟨items.length, by simp, Nat.zero_le _, ρ1, s1, by simpa using q⟩, ?_⟩
      rintro i n σ2 H2 ⟨rfl, hi, ρ2, s2, q2⟩
      obtain ⟨y1, y2⟩ := Y c ρ2 T σ2 tv H2 i s2
      by_cases hlt : i < items.length
      · rw [List.drop_eq_getElem_cons hlt, forL] at q2
        obtain ⟨hgo, hy⟩ := y1 items[i] (List.getElem?_eq_getElem hlt)
        refine .inr ⟨hgo, fun σ' H' => ∃ ρ, ZS (mOf X) c ρ (ds ++ T) σ' (vs ++ tv) H' ∧ SPost (mOf X) W c T tv E (forL g b (items.drop (i + 1)) ρ), fun σ' H' h => ⟨items.length - (i + 1), by omega, rfl, hlt, h⟩, fun x H' hx => ?_⟩
        have s3 := hy x H' hx
        refine ⟨c, ρ2, ds ++ T, vs ++ tv, items[i], k, s3, ?_⟩
        cases e2 : g items[i] ρ2 with
        | none => rw [e2] at q2; exact q2
        | some ρ3 =>
          rw [e2] at q2
          intro σ3 H3 s4
          refine ⟨c, ρ3, ds ++ T, vs ++ tv, k, s4, ?_⟩
          have q2 : SPost (mOf X) W c T tv E ((b ρ3).bind fun fl ρ2 => match fl with
            | .nx => forL g b (items.drop (i + 1)) ρ2
            | .ct => forL g b (items.drop (i + 1)) ρ2
            | .bk => .ok .nx ρ2
            | .rt d => .ok (.rt d) ρ2) := q2
          cases e3 : b ρ3 with
          | stuck => rw [e3] at q2; exact q2
          | ex x ρ4 => rw [e3] at q2; exact fun cls dx σ' H' z s' => q2 cls dx σ' H' z (ZS.cutT s' hlen)
          | ok fl ρ4 =>
            rw [e3] at q2
            cases fl with
            | nx => exact fun σ' H' s' => ⟨ρ4, s', q2⟩
            | ct => exact fun σ' H' s' => ⟨ρ4, s', q2⟩
            | bk => exact fun σ' H' s' => q2 σ' H' (ZS.cutT s' hlen)
            | rt rd => exact fun rv σ' H' s' => q2 rv σ' H' (ZS.under (ds := ds) (vs := vs) s' hlen)
      · have e0 : items.drop i = [] := List.drop_eq_nil_iff.mpr (by omega)
        rw [e0] at q2
        exact .inl ⟨y2 (by omega), q2 σ2 H2 (ZS.cutT s2 hlen)⟩
end

/-! ### what is walked -/
def asLst : D → Option (List D)
  | .nd (.lst _) xs => some xs
  | _ => none
def asTup : D → Option (List D)
  | .nd .tup xs => some xs
  | _ => none
theorem asLst_of {d : D} {xs : List D} (h : asLst d = some xs) : ∃ o, d = .nd (.lst o) xs := by
  unfold asLst at h
  split at h
  · cases h; exact ⟨_, rfl⟩
  · cases h
theorem asTup_of {d : D} {xs : List D} (h : asTup d = some xs) : d = .nd .tup xs := by
  unfold asTup at h
  split at h
  · cases h; rfl
  · cases h
def zListI (f : EF) : IF := fun ρ => (f ρ).bind fun d ρ' => match asLst d with
  | some xs => .ok ([.nd (.lst false) (frzL xs)], frzL xs) ρ'
  | none => .stuck
def zTupI (f : EF) : IF := fun ρ => (f ρ).bind fun d ρ' => match asTup d with
  | some xs => .ok ([.nd .tup (frzL xs)], frzL xs) ρ'
  | none => .stuck
section
variable {m : M} {c : Cz} {ρ : Env} {T : List D} {σ : Sl} {tv : List V} {H F : Hp} {A B : List Addr}
/-- something of what is held is held once more -/
theorem ZSx.pushOf {d x : D} {v xv : V} (s : ZSx m c ρ (d :: T) σ (v :: tv) H F A B) (r : Rep m F H xv x []) : ZS m c ρ (x :: d :: T) σ (xv :: v :: tv) H := ⟨F, A, B, s.pushF r⟩
theorem ZSx.top {d : D} {v : V} (s : ZSx m c ρ (d :: T) σ (v :: tv) H F A B) : ∃ C, Rep m F H v d C := by
  cases id s.tm with
  | cons h r => exact ⟨_, h⟩
theorem ZS.top {d : D} {v : V} (s : ZS m c ρ (d :: T) σ (v :: tv) H) : ∃ F C, Same F H ∧ Rep m F H v d C := by
  obtain ⟨F, A, B, s⟩ := s
  obtain ⟨C, r⟩ := s.top
  exact ⟨F, C, s.sub, r⟩
theorem pure_item {k : Kd} {xs : List D} {i : Nat} {x : D} (h : (D.nd k xs).pure = true) (e : xs[i]? = some x) : x.pure = true := by
  rw [D.pure, Bool.and_eq_true, pureL_all] at h
  exact List.all_eq_true.mp h.2 x (List.mem_of_getElem? e)
theorem yields_list {xs : List D} {a : Addr} (hp : (D.nd (.lst false) xs).pure = true) : Yields m [.nd (.lst false) xs] xs [.ref a] (Itl m.K a) := by
  intro c ρ T σ tv H i s
  obtain ⟨F, A, B, s⟩ := s
  obtain ⟨C, r⟩ := s.top
  obtain ⟨a', vs, B', e, h1, h2⟩ := rep_lst r s.sub
  cases e
  refine ⟨fun x hx => ?_, fun hi => ⟨vs, SqL.of h1, by rw [h2.length]; exact hi⟩⟩
  obtain ⟨v, D', e1, e2, _⟩ := h2.get hx
  refine ⟨⟨vs, v, SqL.of h1, e1⟩, fun xv H' hy => ?_⟩
  obtain ⟨rfl, hy⟩ := hy
  have e3 := hy vs (SqL.of h1)
  rw [e1] at e3
  cases e3
  exact s.pushOf (e2.pureR (pure_item hp hx) (Same.refl _))
theorem yields_tup {xs : List D} {a : Addr} (hp : (D.nd .tup xs).pure = true) : Yields m [.nd .tup xs] xs [.ref a] (Itt m.K a) := by
  intro c ρ T σ tv H i s
  obtain ⟨F, A, B, s⟩ := s
  obtain ⟨C, r⟩ := s.top
  obtain ⟨a', vs, B', e, h1, h2⟩ := rep_tup r
  cases e
  have h1 := Same.sqT s.sub h1
  refine ⟨fun x hx => ?_, fun hi => ⟨vs, h1, by rw [h2.length]; exact hi⟩⟩
  obtain ⟨v, D', e1, e2, _⟩ := h2.get hx
  refine ⟨⟨vs, v, h1, e1⟩, fun xv H' hy => ?_⟩
  obtain ⟨rfl, hy⟩ := hy
  have e3 := hy vs h1
  rw [e1] at e3
  cases e3
  exact s.pushOf (e2.pureR (pure_item hp hx) (Same.refl _))
end
theorem frz_shape {d : D} {k : Kd} {xs : List D} (h : d.frz = .nd k xs) : (D.nd k xs).pure = true := by rw [← h]; exact pure_frz d
section
variable {X : Cx} {W : WX} {tg e : Expr} {p : Bool} {f : EF}
/-- over a list -/
theorem zi_list (he : ZE X W p e f) : ZI X W tg e (zListI f) :=
  piImp (pi_list he) fun σ H Q ⟨c, ρ, T, tv, s, q⟩ => by
    refine ⟨c, ρ, T, tv, s, ?_⟩
    unfold zListI at q
    cases e2 : f ρ with
    | stuck => rw [e2] at q; exact q
    | ex x ρ1 => rw [e2] at q; exact q
    | ok d ρ1 =>
      rw [e2] at q
      intro v H1 s1 _
      have q : IPost (mOf X) W c T σ tv Q (match asLst d with
        | some xs => R.ok ([D.nd (.lst false) (frzL xs)], frzL xs) ρ1
        | none => R.stuck) := q
      cases e3 : asLst d with
      | none => rw [e3] at q; exact q.elim
      | some xs =>
        rw [e3] at q
        obtain ⟨o, rfl⟩ := asLst_of e3
        have s2 := s1.freeze.1
        rw [D.frz] at s2
        obtain ⟨F, C, sm, r⟩ := s2.top
        obtain ⟨a, vs, B', rfl, h1, h2⟩ := rep_lst (o := false) r sm
        exact ⟨a, rfl, ⟨vs, SqL.of h1⟩, q [_] [_] _ _ rfl s2 (yields_list (m := mOf X) (frz_shape (d := .nd (.lst o) xs) rfl))⟩
/-- over a tuple -/
theorem zi_tup (he : ZE X W p e f) : ZI X W tg e (zTupI f) :=
  piImp (pi_tup he) fun σ H Q ⟨c, ρ, T, tv, s, q⟩ => by
    refine ⟨c, ρ, T, tv, s, ?_⟩
    unfold zTupI at q
    cases e2 : f ρ with
    | stuck => rw [e2] at q; exact q
    | ex x ρ1 => rw [e2] at q; exact q
    | ok d ρ1 =>
      rw [e2] at q
      intro v H1 s1 _
      have q : IPost (mOf X) W c T σ tv Q (match asTup d with
        | some xs => R.ok ([D.nd .tup (frzL xs)], frzL xs) ρ1
        | none => R.stuck) := q
      cases e3 : asTup d with
      | none => rw [e3] at q; exact q.elim
      | some xs =>
        rw [e3] at q
        have e4 := asTup_of e3
        subst e4
        have s2 := s1.freeze.1
        rw [D.frz] at s2
        obtain ⟨F, C, sm, r⟩ := s2.top
        obtain ⟨a, vs, B', rfl, h1, h2⟩ := rep_tup r
        exact ⟨a, rfl, ⟨vs, Same.sqT sm h1⟩, q [_] [_] _ _ rfl s2 (yields_tup (m := mOf X) (frz_shape (d := .nd .tup xs) rfl))⟩
end
/-- lo, lo + 1, .. below hi -/
def rangeD (lo hi : Int) : List D := (List.range (hi - lo).toNat).map fun i => .at (.int (lo + (i : Nat)))
def inR62 (i : Int) : Bool := decide (-(2 ^ 62) ≤ i ∧ i < 2 ^ 62)
def zRng1 (f : EF) : IF := fun ρ => (evI f ρ).bind fun j ρ' => if inR62 j = true then .ok ([], rangeD 0 j) ρ' else .stuck
def zRng2 (f g : EF) : IF := fun ρ => (evI f ρ).bind fun i ρ1 => (evI g ρ1).bind fun j ρ2 => if inR62 i = true ∧ inR62 j = true then .ok ([], rangeD i j) ρ2 else .stuck
section
variable {X : Cx} {W : WX} {tg a b : Expr} {p1 p2 : Bool} {f g : EF} {p pos : Pos}
theorem yields_range {m : M} {lo hi : Int} : Yields m [] (rangeD lo hi) [] (Itr lo (hi - lo).toNat) := by
  intro c ρ T σ tv H i s
  refine ⟨fun x hx => ?_, fun hi' => ?_⟩
  · unfold rangeD at hx
    rw [List.getElem?_map] at hx
    obtain ⟨k, h1, rfl⟩ := Option.map_eq_some_iff.mp hx
    obtain ⟨h2, h3⟩ := List.getElem?_eq_some_iff.mp h1
    rw [List.length_range] at h2
    rw [List.getElem_range] at h3
    subst h3
    refine ⟨h2, fun xv H' hy => ?_⟩
    obtain ⟨rfl, rfl⟩ := hy
    exact s.pushA (.int (lo + (i : Nat)))
  · unfold rangeD at hi'
    rw [List.length_map, List.length_range] at hi'
    exact hi'
theorem IPost.bind {α : Type} {m : M} {c : Cz} {T : List D} {σ : Sl} {tv : List V} {H : Hp} {Q : It → Hp → Prop} {r : R α} {k : α → IF} (h : IPost m W c T σ tv Q (r.bind k)) :
    GPost m W false c T σ tv H (fun a H' => ∃ ρ', ZS m c ρ' T σ tv H' ∧ IPost m W c T σ tv Q (k a ρ')) r := by
  cases r with
  | stuck => exact h
  | ex x ρ => exact h
  | ok a ρ => exact fun H' s' _ => ⟨ρ, s', h⟩
theorem zi_range1 (hg : Gl X "range") (hm : X.mg "range" = none) (ha : ZE X W p1 a f) (he : starEach [a] X.env = (false, eval a X.env) :: starEach [] X.env := by rfl) (hs : starEach [a] X.env = [(false, eval a X.env)] := by rfl) : ZI X W tg (.Call (.Name "range" p) [a] [] pos) (zRng1 f) :=
  piImp (pi_range1 hg hm (pa_cons ha pa_nil he) hs) fun σ H Q ⟨c, ρ, T, tv, s, q⟩ => by
    refine tZ_int s (((IPost.bind q).weak).mono fun j H1 ⟨ρ1, s1, q1⟩ => ?_)
    split at q1
    · rename_i hj
      obtain ⟨h1, h2⟩ := of_decide_eq_true hj
      refine ⟨j, rfl, h1, h2, ?_⟩
      have y := yields_range (m := mOf X) (lo := 0) (hi := j)
      rw [Int.sub_zero] at y
      exact q1 [] [] _ _ rfl s1 y
    · exact q1.elim
theorem zi_range2 (hg : Gl X "range") (hm : X.mg "range" = none) (ha : ZE X W p1 a f) (hb : ZE X W p2 b g) (he : starEach [a, b] X.env = (false, eval a X.env) :: starEach [b] X.env := by rfl) (he2 : starEach [b] X.env = (false, eval b X.env) :: starEach [] X.env := by rfl)
    (hs : starEach [a, b] X.env = [(false, eval a X.env), (false, eval b X.env)] := by rfl) (hs2 : starEach [b] X.env = [(false, eval b X.env)] := by rfl) : ZI X W tg (.Call (.Name "range" p) [a, b] [] pos) (zRng2 f g) :=
  piImp (pi_range2 hg hm (pa_cons ha (pa_cons hb pa_nil he2) he) hs hs2) fun σ H Q ⟨c, ρ, T, tv, s, q⟩ => by
    refine tZ_int s (((IPost.bind q).weak).mono fun i H1 ⟨ρ1, s1, q1⟩ => ?_)
    refine tZ_int s1 (((IPost.bind q1).weak).mono fun j H2 ⟨ρ2, s2, q2⟩ => ?_)
    split at q2
    · rename_i hj
      obtain ⟨h1, h2⟩ := of_decide_eq_true hj.1
      obtain ⟨h3, h4⟩ := of_decide_eq_true hj.2
      exact ⟨i, j, rfl, ⟨h1, h2, h3, h4⟩, q2 [] [] _ _ rfl s2 yields_range⟩
    · exact q2.elim
end
end Z

set_option Elab.async false
set_option linter.all false
set_option maxRecDepth 100000
set_option maxHeartbeats 4000000
/-! Z8: defs as functions on data; calls. -/
namespace Z
open PySem PySem.Spec PyProof.Rows L2

/-- what a def's call gives: the value or the exception, and what stands in its parameters then -/
inductive FR where
  | ret (d : D) (bk : Env)
  | exc (e : EX) (bk : Env)
abbrev Fn := List D → Option FR
/-- the call's effect on the heap: A handed in, B what is owned behind it -/
structure CP (F H : Hp) (A : List Addr) (F' H' : Hp) (B : List Addr) : Prop where
  ff : Same F F'
  sub : Same F' H'
  nd : B.Nodup
  nf : ∀ a ∈ B, F' a = none
  own : ∀ a ∈ B, a ∈ A ∨ H a = none
  fnw : ∀ a o, F' a = some o → F a = some o ∨ a ∈ A ∨ H a = none
  keep : ∀ a o, H a = some o → a ∉ A → H' a = some o
  thr : ∀ a, H' a = none → H a = none
def FPost (m : M) (F H : Hp) (vs : List V) (A : List Addr) (Q : VK) (E : XK) : Option FR → Prop
  | some (.ret d bk) => ∀ v H' F' Av Ab, CP F H A F' H' (Ab ++ Av) → Rep m F' H' v d Av → RepE m F' H' (vs.map some) bk Ab → Q v H'
  | some (.exc e bk) => ∀ cls dx H' F' Ab, CP F H A F' H' Ab → ExR m H H' cls dx e → RepE m F' H' (vs.map some) bk Ab → E cls dx H'
  | none => False
def spZ (m : M) (n : Nat) (φ : Fn) : Sp := fun vs H Q E => ∃ F ds A, vs.length = n ∧ Same F H ∧ Reps m F H vs ds A ∧ A.Nodup ∧ (∀ a ∈ A, F a = none) ∧ FPost m F H vs A Q E (φ ds)
/-- what stands in the parameters that are never assigned -/
def bkO (kp : List Nat) : Nat → Nat → Env → Env
  | _, 0, _ => []
  | i, n + 1, o :: ρ => (if i ∈ kp then o else none) :: bkO kp (i + 1) n ρ
  | i, n + 1, [] => none :: bkO kp (i + 1) n []
def fnEnv (n : Nat) (ds : List D) : Env := ds.map some ++ List.replicate (n - ds.length) none
def fnOf (n : Nat) (kp : List Nat) (b : SF) : Fn := fun ds => match b (fnEnv n ds) with
  | .ok (.rt d) ρ => some (.ret d (bkO kp 0 ds.length ρ))
  | .ok .nx ρ => some (.ret (.at .non) (bkO kp 0 ds.length ρ))
  | .ex e ρ => some (.exc e (bkO kp 0 ds.length ρ))
  | _ => none
/-- .. of a def that lets no exception out -/
def fnOf0 (n : Nat) (kp : List Nat) (b : SF) : Fn := fun ds => match b (fnEnv n ds) with
  | .ok (.rt d) ρ => some (.ret d (bkO kp 0 ds.length ρ))
  | .ok .nx ρ => some (.ret (.at .non) (bkO kp 0 ds.length ρ))
  | _ => none
theorem fnOf0_ret {n : Nat} {kp : List Nat} {b : SF} {ds : List D} {r : FR} (h : fnOf0 n kp b ds = some r) : fnOf n kp b ds = some r ∧ ∃ d bk, r = .ret d bk := by
  unfold fnOf0 at h
  unfold fnOf
  split at h
  · rename_i e; rw [e]; cases h; exact ⟨rfl, _, _, rfl⟩
  · rename_i e; rw [e]; cases h; exact ⟨rfl, _, _, rfl⟩
  · cases h
def parOf (kp : List Nat) : Nat → Sl → List (Nat × Option V)
  | _, [] => []
  | i, v :: vs => if i ∈ kp then (i, v) :: parOf kp (i + 1) vs else parOf kp (i + 1) vs
theorem parOf_mem {kp : List Nat} : ∀ {vs : Sl} {i : Nat} {p : Nat × Option V}, p ∈ parOf kp i vs → p.1 ∈ kp ∧ i ≤ p.1 ∧ vs[p.1 - i]? = some p.2
  | [], _, _, h => absurd h (by simp [parOf])
  | v :: vs, i, p, h => by
    rw [parOf] at h
    have ih : p ∈ parOf kp (i + 1) vs → p.1 ∈ kp ∧ i ≤ p.1 ∧ (v :: vs)[p.1 - i]? = some p.2 := fun h => by
      obtain ⟨h1, h2, h3⟩ := parOf_mem h
      refine ⟨h1, by omega, ?_⟩
      have e : p.1 - i = (p.1 - (i + 1)) + 1 := by omega
      rw [e, List.getElem?_cons_succ]; exact h3
    split at h
    · rename_i hi
      rcases List.mem_cons.mp h with e | h
      · subst e
        exact ⟨hi, Nat.le_refl _, by simp⟩
      · exact ih h
    · exact ih h
theorem mem_parOf {kp : List Nat} : ∀ {vs : Sl} {i j : Nat} {v : Option V}, vs[j]? = some v → i + j ∈ kp → (i + j, v) ∈ parOf kp i vs
  | [], _, _, _, h, _ => by simp at h
  | w :: vs, i, 0, v, h, hk => by
    simp at h; subst h
    rw [parOf, if_pos (by simpa using hk)]
    exact List.mem_cons_self
  | w :: vs, i, j + 1, v, h, hk => by
    have e : i + (j + 1) = (i + 1) + j := by omega
    rw [e] at hk ⊢
    have q := mem_parOf (i := i + 1) (j := j) (by simpa using h) hk
    rw [parOf]
    split
    · exact List.mem_cons_of_mem _ q
    · exact q
section
variable {m : M} {F H : Hp}
theorem RepE.pad : ∀ (n : Nat), RepE m F H (List.replicate n none) (List.replicate n none) []
  | 0 => .nil
  | n + 1 => by rw [List.replicate_succ, List.replicate_succ]; exact .no (RepE.pad n)
theorem RepE.ofReps : ∀ {vs : List V} {ds : List D} {A : List Addr} (n : Nat), Reps m F H vs ds A → RepE m F H (vs.map some ++ List.replicate n none) (ds.map some ++ List.replicate n none) A
  | _, _, _, n, .nil => by simpa using RepE.pad n
  | _, _, _, n, .cons h r => .yes h (RepE.ofReps n r)
theorem RepE.noneL {kp : List Nat} : ∀ (vs : List V) (i : Nat), RepE m F H (vs.map some) (bkO kp i vs.length []) []
  | [], _ => .nil
  | v :: vs, i => by
    rw [List.length_cons, bkO]
    exact .no (RepE.noneL vs (i + 1))
theorem RepE.back {kp : List Nat} : ∀ {vs : List V} {i : Nat} {σ : Sl} {ρ : Env} {A : List Addr}, RepE m F H σ ρ A → (∀ (j : Nat) (v : V), vs[j]? = some v → i + j ∈ kp → σ[j]? = some (some v)) →
    ∃ B, RepE m F H (vs.map some) (bkO kp i vs.length ρ) B ∧ ∃ C, A.Perm (C ++ B)
  | [], i, σ, ρ, A, r, _ => ⟨[], .nil, A, by simp⟩
  | v :: vs, i, _, _, _, .nil, _ => ⟨[], RepE.noneL (v :: vs) i, [], List.Perm.refl _⟩
  | v :: vs, i, _, _, _, .no (σ := σ) (ρ := ρ) r, h => by
    obtain ⟨B, r2, C, p⟩ := RepE.back (vs := vs) (i := i + 1) r fun j w e hk => by
      have q := h (j + 1) w (by simpa using e) (by rw [show i + (j + 1) = i + 1 + j by omega]; exact hk)
      simpa using q
    rw [List.length_cons, bkO, ite_self]
    exact ⟨B, .no r2, C, p⟩
  | v :: vs, i, _, _, _, .yes (v := w) (d := d) (A := A1) (B := A2) hh r, h => by
    obtain ⟨B, r2, C, p⟩ := RepE.back (vs := vs) (i := i + 1) r fun j w e hk => by
      have q := h (j + 1) w (by simpa using e) (by rw [show i + (j + 1) = i + 1 + j by omega]; exact hk)
      simpa using q
    rw [List.length_cons, bkO]
    by_cases hi : i ∈ kp
    · rw [if_pos hi]
      have e : some w = some v := by
        have q := h 0 v rfl (by simpa using hi)
        simpa using q
      cases e
      refine ⟨A1 ++ B, .yes hh r2, C, ?_⟩
      refine (List.Perm.append_left A1 p).trans ?_
      rw [← List.append_assoc, ← List.append_assoc]
      exact List.Perm.append_right B List.perm_append_comm
    · rw [if_neg hi]
      exact ⟨B, .no r2, A1 ++ C, by rw [List.append_assoc]; exact List.Perm.append_left A1 p⟩
end

/-! ### a def's body keeps its promise -/
theorem ZSx.cp {m : M} {F0 H0 : Hp} {A0 : List Addr} {par : List (Nat × Option V)} {ρ : Env} {T : List D} {σ : Sl} {tv : List V} {H F : Hp} {A B A' : List Addr} (s : ZSx m ⟨F0, H0, A0, par⟩ ρ T σ tv H F A B) (p : ∃ C, A.Perm (C ++ A')) : CP F0 H0 A0 F H (A' ++ B) := by
  obtain ⟨C, p⟩ := p
  have sub : ∀ b ∈ A' ++ B, b ∈ A ++ B := fun b hb => (List.mem_append.mp hb).elim (fun h => List.mem_append_left _ (p.mem_iff.mpr (List.mem_append_right _ h))) fun h => List.mem_append_right _ h
  refine ⟨s.fin, s.sub, ?_, fun a ha => s.nf a (sub a ha), fun a ha => s.own a (sub a ha), s.fnw, s.keep, s.thr⟩
  have h1 : (A ++ B).Perm (C ++ (A' ++ B)) := by
    rw [← List.append_assoc]
    exact List.Perm.append_right B p
  exact (List.nodup_append.mp (h1.nodup_iff.mp s.nd)).2.1
theorem fn_run {m : M} {W : WX} {n : Nat} {kp : List Nat} {b : SF} {F H : Hp} {vs : List V} {ds : List D} {A : List Addr} {Q : VK} {E : XK} (hW : ∀ cls d σ H, E cls d H → W cls d σ H) (hn : vs.length ≤ n) (sm : Same F H) (r : Reps m F H vs ds A) (nd : A.Nodup) (nf : ∀ a ∈ A, F a = none) (q : FPost m F H vs A Q E (fnOf n kp b ds)) :
    tS m W kp b { nx := fun _ H' => Q .non H', rt := Q } (vs.map some ++ List.replicate (n - vs.length) none) H := by
  have hl := r.length
  have s0 : ZSx m ⟨F, H, A, parOf kp 0 (vs.map some)⟩ (fnEnv n ds) [] (vs.map some ++ List.replicate (n - vs.length) none) [] H F A [] := by
    refine ⟨sm, ?_, .nil, by simpa using nd, by simpa using nf, Same.refl _, fun _ _ h => .inl h, fun a ha => .inl (by simpa using ha), fun _ _ h _ => h, fun _ h => h, fun p hp => ?_⟩
    · unfold fnEnv
      rw [← hl]
      exact RepE.ofReps _ r
    · obtain ⟨h1, h2, h3⟩ := parOf_mem hp
      have hlt : p.1 < (vs.map some).length := by
        have := (List.getElem?_eq_some_iff.mp h3).1
        omega
      rw [List.getElem?_append_left hlt]
      exact h3
  have bk : ∀ {ρ' : Env} {T' : List D} {σ' : Sl} {tv' : List V} {H' F' : Hp} {A' B' : List Addr}, ZSx m ⟨F, H, A, parOf kp 0 (vs.map some)⟩ ρ' T' σ' tv' H' F' A' B' → ∃ Ab, RepE m F' H' (vs.map some) (bkO kp 0 vs.length ρ') Ab ∧ CP F H A F' H' (Ab ++ B') := fun {ρ' T' σ' tv' H' F' A' B'} s => by
    obtain ⟨Ab, h1, h2⟩ := s.sl.back (kp := kp) (vs := vs) (i := 0) fun j v e hk => by
      have := s.par (0 + j, some v) (mem_parOf (by rw [List.getElem?_map, e]; rfl) hk)
      simpa using this
    exact ⟨Ab, h1, s.cp h2⟩
  refine ⟨⟨F, H, A, parOf kp 0 (vs.map some)⟩, fnEnv n ds, [], [], fun p hp => (parOf_mem hp).1, ⟨F, A, [], s0⟩, ?_⟩
  unfold fnOf at q
  cases e : b (fnEnv n ds) with
  | stuck => rw [e] at q; exact q
  | ex x ρ' =>
    rw [e] at q
    intro cls dx σ' H' hx ⟨F', A', B', s⟩
    cases s.tm
    obtain ⟨Ab, h1, h2⟩ := bk s
    rw [hl] at h1
    exact hW _ _ _ _ (q cls dx H' F' Ab (by simpa using h2) hx h1)
  | ok fl ρ' =>
    rw [e] at q
    cases fl with
    | nx =>
      intro σ' H' ⟨F', A', B', s⟩
      cases s.tm
      obtain ⟨Ab, h1, h2⟩ := bk s
      rw [hl] at h1
      exact q _ H' F' [] Ab h2 (.at .non) h1
    | bk => exact q.elim
    | ct => exact q.elim
    | rt d =>
      intro v σ' H' ⟨F', A', B', s⟩
      obtain ⟨Ab, h1, h2⟩ := bk s
      cases s.tm with
      | cons h r =>
        rename_i B1 B2
        cases r
        rw [hl] at h1
        exact q v H' F' B1 Ab (by simpa using h2) h h1
/-! ### calls -/
/-- the operands' data; what is lent leaves its slot -/
def lendO : List (D ⊕ Nat) → Env → Option (List D × Env)
  | [], ρ => some ([], ρ)
  | .inl d :: r, ρ => (lendO r ρ).map fun q => (d :: q.1, q.2)
  | .inr i :: r, ρ => match ρ[i]? with
    | some (some d) => (lendO r (ρ.set i none)).map fun q => (d :: q.1, q.2)
    | _ => none
/-- .. and comes back -/
def giveO : List (D ⊕ Nat) → Env → Env → Env
  | .inr i :: r, some d :: bk, ρ => let ρ' := giveO r bk ρ; match ρ'[i]? with
    | some none => ρ'.set i (some d)
    | _ => ρ'
  | _ :: r, _ :: bk, ρ => giveO r bk ρ
  | _, _, ρ => ρ
def zCall (φ : Fn) (os : List Opd) : EF := fun ρ => (evO os ρ).bind fun r ρ1 => match lendO r ρ1 with
  | some (ds, ρ2) => match φ ds with
    | some (.ret d bk) => .ok d (giveO r bk ρ2)
    | some (.exc e bk) => .ex e (giveO r bk ρ2)
    | none => .stuck
  | none => .stuck
section
variable {m : M} {c : Cz} {ρ : Env} {T : List D} {σ : Sl} {tv : List V} {H F F' H' : Hp} {A B : List Addr}
theorem lend_reps : ∀ {r : List (D ⊕ Nat)} {vs tvs : List V} {ρ ρ' : Env} {A B : List Addr} {ds : List D}, RepE m F H σ ρ A → Pick σ vs r tvs → Reps m F H tvs (valsO r) B → lendO r ρ = some (ds, ρ') →
    ∃ A1 A2, Reps m F H vs ds A1 ∧ RepE m F H σ ρ' A2 ∧ (A ++ B).Perm (A1 ++ A2)
  | [], _, _, ρ, ρ', A, B, ds, hE, .nil, hr, h => by
    rw [lendO] at h; cases h
    have hr : Reps m F H [] [] B := hr
    cases hr
    exact ⟨[], A, .nil, hE, by simp⟩
  | .inl d :: r, _, _, ρ, ρ', A, _, ds, hE, .val pk, .cons (A := B1) (B := B2) h1 hr, h => by
    rw [lendO] at h
    obtain ⟨⟨ds', ρ2⟩, h2, e⟩ := Option.map_eq_some_iff.mp h
    cases e
    obtain ⟨A1, A2, r1, r2, p⟩ := lend_reps hE pk hr h2
    refine ⟨B1 ++ A1, A2, .cons h1 r1, r2, ?_⟩
    have e1 : (A ++ (B1 ++ B2)).Perm (B1 ++ (A ++ B2)) := by
      rw [← List.append_assoc, ← List.append_assoc]
      exact List.Perm.append_right B2 List.perm_append_comm
    refine e1.trans ?_
    rw [List.append_assoc]
    exact List.Perm.append_left B1 p
  | .inr i :: r, _, _, ρ, ρ', A, B, ds, hE, .slot hv pk, hr, h => by
    rw [lendO] at h
    split at h
    · rename_i d e
      obtain ⟨⟨ds', ρ2⟩, h2, e2⟩ := Option.map_eq_some_iff.mp h
      cases e2
      obtain ⟨v', C1, C2, k1, k2, k3, k4⟩ := hE.take e
      rw [hv] at k1; cases k1
      obtain ⟨A1, A2, r1, r2, p⟩ := lend_reps k3 pk hr h2
      refine ⟨C1 ++ A1, A2, .cons k2 r1, r2, ?_⟩
      refine (List.Perm.append_right B k4).trans ?_
      rw [List.append_assoc, List.append_assoc]
      exact List.Perm.append_left C1 p
    · cases h
theorem give_reps : ∀ {r : List (D ⊕ Nat)} {vs tvs : List V} {ρ bk : Env} {A B : List Addr}, RepE m F H σ ρ A → Pick σ vs r tvs → RepE m F H (vs.map some) bk B → ∃ A', RepE m F H σ (giveO r bk ρ) A' ∧ ∃ C, (B ++ A).Perm (C ++ A')
  | [], _, _, ρ, bk, A, B, hE, .nil, hb => by
    cases hb
    exact ⟨A, by simpa [giveO] using hE, [], by simp⟩
  | .inl d :: r, _, _, ρ, _, A, _, hE, .val pk, .no hb => by
    obtain ⟨A', h1, C, p⟩ := give_reps hE pk hb
    exact ⟨A', by simpa [giveO] using h1, C, p⟩
  | .inl d :: r, _, _, ρ, _, A, _, hE, .val pk, .yes (A := B1) (B := B2) h0 hb => by
    obtain ⟨A', h1, C, p⟩ := give_reps hE pk hb
    refine ⟨A', by simpa [giveO] using h1, B1 ++ C, ?_⟩
    rw [List.append_assoc, List.append_assoc]
    exact List.Perm.append_left B1 p
  | .inr i :: r, _, _, ρ, _, A, _, hE, .slot hv pk, .no hb => by
    obtain ⟨A', h1, C, p⟩ := give_reps hE pk hb
    exact ⟨A', by simpa [giveO] using h1, C, p⟩
  | .inr i :: r, _, _, ρ, _, A, _, hE, .slot hv pk, .yes (d := d) (ρ := bk) (A := B1) (B := B2) h0 hb => by
    obtain ⟨A', h1, C, p⟩ := give_reps hE pk hb
    have p2 : (B1 ++ B2 ++ A).Perm (B1 ++ C ++ A') := by
      rw [List.append_assoc, List.append_assoc]
      exact List.Perm.append_left B1 p
    show ∃ A', RepE m F H σ (match (giveO r bk ρ)[i]? with
      | some none => (giveO r bk ρ).set i (some d)
      | _ => giveO r bk ρ) A' ∧ ∃ C, (B1 ++ B2 ++ A).Perm (C ++ A')
    split
    · rename_i e
      obtain ⟨A3, h3, p3⟩ := h1.put e hv h0
      refine ⟨A3, h3, C, p2.trans ?_⟩
      refine (List.Perm.append_right A' List.perm_append_comm).trans ?_
      rw [List.append_assoc]
      exact List.Perm.append_left C p3.symm
    · exact ⟨A', h1, B1 ++ C, p2⟩
/-- behind a call -/
theorem ZSx.after {A1 A2 B2 Bn : List Addr} (s : ZSx m c ρ T σ tv H F A B) (p : (A ++ B).Perm (A1 ++ (A2 ++ B2))) (cp : CP F H A1 F' H' Bn) :
    (∀ b ∈ A2 ++ B2, H' b = H b) ∧ Same F F' ∧
    ∀ {ρ' : Env} {T' : List D} {tv' : List V} {A' B' : List Addr}, RepE m F' H' σ ρ' A' → Reps m F' H' tv' T' B' → (∃ C, (Bn ++ (A2 ++ B2)).Perm (C ++ (A' ++ B'))) → ZSx m c ρ' T' σ tv' H' F' A' B' := by
  have nd := p.nodup_iff.mp s.nd
  rw [List.nodup_append] at nd
  obtain ⟨nd1, nd2, dj⟩ := nd
  have hth : ∀ b ∈ A ++ B, ∃ o, H b = some o := fun b hb => (List.mem_append.mp hb).elim (s.sl.there b) (s.tm.there b)
  have k2 : ∀ b ∈ A2 ++ B2, H' b = H b := fun b hb => by
    obtain ⟨o, ho⟩ := hth b (p.mem_iff.mpr (List.mem_append_right _ hb))
    rw [ho]
    exact cp.keep b o ho fun z => dj b z b hb rfl
  refine ⟨k2, cp.ff, fun {ρ' T' tv' A' B'} hE hT ⟨C, pc⟩ => ?_⟩
  have dj2 : ∀ b ∈ Bn, b ∉ A2 ++ B2 := fun b hb hb2 => by
    rcases cp.own b hb with z | z
    · exact dj b z b hb2 rfl
    · obtain ⟨o, ho⟩ := hth b (p.mem_iff.mpr (List.mem_append_right _ hb2))
      rw [z] at ho; cases ho
  have nd3 : (Bn ++ (A2 ++ B2)).Nodup := List.nodup_append.mpr ⟨cp.nd, nd2, fun a ha b hb e => dj2 a ha (e ▸ hb)⟩
  have sub : ∀ b ∈ A' ++ B', b ∈ Bn ++ (A2 ++ B2) := fun b hb => pc.mem_iff.mpr (List.mem_append_right _ hb)
  have ow1 : ∀ b ∈ A1, b ∈ c.A ∨ c.H b = none := fun b hb => s.own b (p.mem_iff.mpr (List.mem_append_left _ hb))
  refine ⟨cp.sub, hE, hT, (List.nodup_append.mp (pc.nodup_iff.mp nd3)).2.1, fun b hb => ?_, s.fin.trans cp.ff, fun b o h => ?_, fun b hb => ?_, fun b o h1 h2 => ?_, fun b h => s.thr b (cp.thr b h), s.par⟩
  · rcases List.mem_append.mp (sub b hb) with h | h
    · exact cp.nf b h
    · cases q : F' b with
      | none => rfl
      | some o =>
        rcases cp.fnw b o q with z | z | z
        · rw [s.nf b (p.mem_iff.mpr (List.mem_append_right _ h))] at z; cases z
        · exact absurd rfl (dj b z b h)
        · obtain ⟨o', ho⟩ := hth b (p.mem_iff.mpr (List.mem_append_right _ h))
          rw [z] at ho; cases ho
  · rcases cp.fnw b o h with z | z | z
    · exact s.fnw b o z
    · exact .inr (ow1 b z)
    · exact .inr (.inr (s.thr b z))
  · rcases List.mem_append.mp (sub b hb) with h | h
    · rcases cp.own b h with z | z
      · exact ow1 b z
      · exact .inr (s.thr b z)
    · exact s.own b (p.mem_iff.mpr (List.mem_append_right _ h))
  · refine cp.keep b o (s.keep b o h1 h2) fun z => ?_
    rcases ow1 b z with q | q
    · exact h2 q
    · rw [q] at h1; cases h1
end
/-- a def of the module, as it is called -/
def Cal (m : M) (base : Heap) (CX : CXT) (k : Nat) (x : Str) (ps : List Str) (φ : Fn) : Prop :=
  ∃ f fd, FnOk m.P m.w m.K m.mg base CX k f fd ps (spZ m ps.length φ) ∧ m.mg x = some (.ref f) ∧ PySem.W.keepIn m.K (.ref f) = true ∧ Binds m.K fd ps []
theorem call_run {m : M} {W : WX} {n : Nat} {φ : Fn} {pos : List (Bool × Opd)} {c : Cz} {ρ : Env} {T : List D} {σ : Sl} {tv : List V} {H : Hp} {Q : VK} {E : XK} (hE : ∀ ds e bk, φ ds = some (.exc e bk) → ∀ cls dx H', W cls dx σ H' → E cls dx H') (hn : pos.length = n) (s : ZS m c ρ T σ tv H) (h : ZPost m W false c T σ tv H Q (zCall φ (pos.map (·.2)) ρ)) :
    tOs m W pos σ H (fun vs H' => spZ m n φ vs H' Q E) := by
  refine tOs_run s ?_
  unfold zCall at h
  cases e : evO (pos.map (·.2)) ρ with
  | stuck => rw [e] at h; exact h
  | ex x ρ1 => rw [e] at h; exact h
  | ok r ρ1 =>
    rw [e] at h
    intro vs tvs H1 pk s1 _
    have hv : vs.length = n := by
      have evl : ∀ {os : List Opd} {ρ ρ' : Env} {r : List (D ⊕ Nat)}, evO os ρ = .ok r ρ' → r.length = os.length := by
        intro os
        induction os with
        | nil => intro ρ ρ' r h; rw [evO] at h; cases h; rfl
        | cons o os ih =>
          intro ρ ρ' r h
          cases o with
          | v f =>
            rw [evO] at h
            cases e1 : f ρ with
            | stuck => rw [e1] at h; cases h
            | ex x ρ1 => rw [e1] at h; cases h
            | ok d ρ1 =>
              rw [e1] at h
              have h : ((evO os ρ1).bind fun r ρ2 => R.ok (Sum.inl d :: r) ρ2) = .ok r ρ' := h
              cases e2 : evO os ρ1 with
              | stuck => rw [e2] at h; cases h
              | ex x ρ2 => rw [e2] at h; cases h
              | ok r2 ρ2 =>
                rw [e2] at h
                have h : R.ok (Sum.inl d :: r2) ρ2 = .ok r ρ' := h
                cases h
                rw [List.length_cons, List.length_cons, ih e2]
          | p i =>
            rw [evO] at h
            split at h
            · cases e2 : evO os ρ with
              | stuck => rw [e2] at h; cases h
              | ex x ρ2 => rw [e2] at h; cases h
              | ok r2 ρ2 =>
                rw [e2] at h
                have h : R.ok (Sum.inr i :: r2) ρ2 = .ok r ρ' := h
                cases h
                rw [List.length_cons, List.length_cons, ih e2]
            · cases h
      have pl : ∀ {vs tvs : List V} {r : List (D ⊕ Nat)}, Pick σ vs r tvs → vs.length = r.length := by
        intro vs tvs r pk
        induction pk with
        | nil => rfl
        | val _ ih => rw [List.length_cons, List.length_cons, ih]
        | slot _ _ ih => rw [List.length_cons, List.length_cons, ih]
      rw [pl pk, evl e, List.length_map, hn]
    have h : ZPost m W false c T σ tv H Q (match lendO r ρ1 with
      | some (ds, ρ2) => match φ ds with
        | some (.ret d bk) => R.ok d (giveO r bk ρ2)
        | some (.exc e bk) => R.ex e (giveO r bk ρ2)
        | none => R.stuck
      | none => R.stuck) := h
    cases e2 : lendO r ρ1 with
    | none => rw [e2] at h; exact h.elim
    | some q =>
      obtain ⟨ds, ρ2⟩ := q
      rw [e2] at h
      obtain ⟨F, A, B, s2⟩ := s1
      obtain ⟨B1, B2, r1, r2, rfl⟩ := Reps.mid pk.length s2.tm
      obtain ⟨A1, A2, l1, l2, p⟩ := lend_reps s2.sl pk r1 e2
      have pp : (A ++ (B1 ++ B2)).Perm (A1 ++ (A2 ++ B2)) := by
        rw [← List.append_assoc, ← List.append_assoc]
        exact List.Perm.append_right B2 p
      have nd := pp.nodup_iff.mp s2.nd
      refine ⟨F, ds, A1, hv, s2.sub, l1, (List.nodup_append.mp nd).1, fun a ha => s2.nf a (pp.mem_iff.mpr (List.mem_append_left _ ha)), ?_⟩
      have h : ZPost m W false c T σ tv H Q (match φ ds with
        | some (.ret d bk) => R.ok d (giveO r bk ρ2)
        | some (.exc e bk) => R.ex e (giveO r bk ρ2)
        | none => R.stuck) := h
      cases e3 : φ ds with
      | none => rw [e3] at h; exact h.elim
      | some fr =>
        rw [e3] at h
        cases fr with
        | ret d bk =>
          intro v H' F' Av Ab cp hr hb
          obtain ⟨k2, ff, fin⟩ := s2.after pp cp
          have m2 := l2.mono (H' := H') ff fun b hb' => k2 b (List.mem_append_left _ hb')
          have m3 := r2.mono (H' := H') ff fun b hb' => k2 b (List.mem_append_right _ hb')
          obtain ⟨A', g1, C, g2⟩ := give_reps m2 pk hb
          refine h v H' ⟨F', A', Av ++ B2, fin g1 (.cons hr m3) ⟨C, ?_⟩⟩ fun z => nomatch z
          have e1 : (Ab ++ Av ++ (A2 ++ B2)).Perm (Ab ++ A2 ++ (Av ++ B2)) := by
            rw [List.append_assoc, List.append_assoc]
            refine List.Perm.append_left Ab ?_
            rw [← List.append_assoc, ← List.append_assoc]
            exact List.Perm.append_right B2 List.perm_append_comm
          refine e1.trans ?_
          have e2 : (C ++ (A' ++ (Av ++ B2))) = (C ++ A') ++ (Av ++ B2) := by rw [List.append_assoc]
          rw [e2]
          exact List.Perm.append_right _ g2
        | exc x bk =>
          intro cls dx H' F' Ab cp hx hb
          have hE2 := hE ds x bk e3
          obtain ⟨k2, ff, fin⟩ := s2.after pp cp
          have m2 := l2.mono (H' := H') ff fun b hb' => k2 b (List.mem_append_left _ hb')
          have m3 := r2.mono (H' := H') ff fun b hb' => k2 b (List.mem_append_right _ hb')
          obtain ⟨A', g1, C, g2⟩ := give_reps m2 pk hb
          refine hE2 cls dx H' (h cls dx H' (hx.base s2.thr) ⟨F', A', B2, fin g1 m3 ⟨C, ?_⟩⟩)
          rw [← List.append_assoc, ← List.append_assoc]
          exact List.Perm.append_right B2 g2
section
variable {X : Cx} {W : WX} {k : Nat} {x : Str} {ps : List Str} {φ : Fn} {p pos : Pos} {e : Expr} {es : List Expr} {os : List (Bool × Opd)}
/-- a call of a def that lets no exception out -/
theorem ze_call (F : Cal (mOf X) X.base CX0 k x ps φ) (hr : Room k X.A) (hg : Gl X x) (ha : ZOs X W (e :: es) os) (hn : os.length = ps.length := by rfl) (hφ : ∀ ds x bk, φ ds ≠ some (.exc x bk)) (hdb : (x == ("__debug__" : Str)) = false := by decide) (he : starEach (e :: es) X.env = (false, eval e X.env) :: starEach es X.env := by rfl)
    (hpl : (backTo pos (starEach es X.env)).any (·.1) = false := by rfl) : ZE X W false (.Call (.Name x p) (e :: es) [] pos) (zCall φ (os.map (·.2))) := by
  obtain ⟨f, fd, F, hm, hk, hb⟩ := F
  refine peImp (pe_call (E := E0) F hr hg hm hk hb .nil pass0 ha hdb he hpl) fun σ H Q ⟨c, ρ, T, tv, s, q⟩ => ?_
  have z := call_run (m := mOf X) (W := W) (φ := φ) (E := E0) (n := ps.length) (fun ds x bk z => absurd z (hφ ds x bk)) hn s q
  show tOs (mOf X) W os σ H (fun vs H1 => spZ (mOf X) ps.length φ (vs ++ []) H1 Q E0)
  simpa using z
theorem fnOf0_nox {n : Nat} {kp : List Nat} {b : SF} (ds : List D) (x : EX) (bk : Env) : fnOf0 n kp b ds ≠ some (.exc x bk) := fun h => by
  obtain ⟨_, d, bk', e⟩ := fnOf0_ret h
  cases e
end
end Z

set_option Elab.async false
set_option linter.all false
set_option maxRecDepth 100000
set_option maxHeartbeats 4000000
/-! Z9: owned containers change in place. -/
namespace Z
open PySem PySem.Spec PyProof.Rows L2

inductive Stp where
  | key (x : Str)
  | fld (x : Str)
def ixK {κ : Type} [DecidableEq κ] : List κ → κ → Option Nat
  | [], _ => none
  | k :: ks, j => if k = j then some 0 else (ixK ks j).map (· + 1)
def childN : Kd → Stp → Option Nat
  | .dk _ ks, .key x => ixK ks (.inr x)
  | .ins _ _ ns, .fld x => ixK ns x
  | _, _ => none
def getP : D → List Stp → Option D
  | d, [] => some d
  | .nd k xs, s :: p => if k.own = true then (childN k s).bind fun i => (xs[i]?).bind fun c => getP c p else none
  | .at _, _ :: _ => none
def setP : D → List Stp → D → Option D
  | _, [], e => some e
  | .nd k xs, s :: p, e => (childN k s).bind fun i => (xs[i]?).bind fun c => (setP c p e).map fun c' => .nd k (xs.set i c')
  | .at _, _ :: _, _ => none
def StepV (H : Hp) (x : V) : Stp → V → Prop
  | .key t, z => ∃ a kvs, x = .ref a ∧ H a = some (.dK kvs) ∧ valV kvs (.inr t) = some z
  | .fld t, z => ∃ a C dx fs, x = .ref a ∧ H a = some (.ins C dx fs) ∧ fs.lookup t = some z
def WalkV (H : Hp) : V → List Stp → V → Prop
  | x, [], y => y = x
  | x, s :: p, y => ∃ z, StepV H x s z ∧ WalkV H z p y
theorem StepV.det {H : Hp} {x y z : V} : ∀ {s : Stp}, StepV H x s y → StepV H x s z → y = z
  | .key t, ⟨a, kvs, e1, e2, e3⟩, ⟨b, kvs', f1, f2, f3⟩ => by
    subst e1; cases f1
    rw [e2] at f2; cases f2
    rw [e3] at f3; cases f3; rfl
  | .fld t, ⟨a, C, dx, fs, e1, e2, e3⟩, ⟨b, C', dx', fs', f1, f2, f3⟩ => by
    subst e1; cases f1
    rw [e2] at f2; cases f2
    rw [e3] at f3; cases f3; rfl
theorem WalkV.det {H : Hp} : ∀ {p : List Stp} {x y z : V}, WalkV H x p y → WalkV H x p z → y = z
  | [], _, _, _, e, f => e.trans f.symm
  | s :: p, x, y, z, ⟨u, h1, h2⟩, ⟨v, k1, k2⟩ => by
    cases h1.det k1
    exact h2.det k2
theorem StepV.mono {H H' : Hp} (e : Same H H') {x y : V} : ∀ {s : Stp}, StepV H x s y → StepV H' x s y
  | .key t, ⟨a, kvs, e1, e2, e3⟩ => ⟨a, kvs, e1, e _ _ e2, e3⟩
  | .fld t, ⟨a, C, dx, fs, e1, e2, e3⟩ => ⟨a, C, dx, fs, e1, e _ _ e2, e3⟩
theorem WalkV.mono {H H' : Hp} (e : Same H H') : ∀ {p : List Stp} {x y : V}, WalkV H x p y → WalkV H' x p y
  | [], _, _, h => h
  | s :: p, _, _, ⟨u, h1, h2⟩ => ⟨u, h1.mono e, h2.mono e⟩
theorem WalkV.snoc {H : Hp} : ∀ {p : List Stp} {x y z : V} {s : Stp}, WalkV H x (p ++ [s]) z → ∃ y, WalkV H x p y ∧ StepV H y s z
  | [], x, y, z, s, ⟨u, h1, h2⟩ => by
    cases h2
    exact ⟨x, rfl, h1⟩
  | t :: p, x, y, z, s, ⟨u, h1, h2⟩ => by
    obtain ⟨y', k1, k2⟩ := WalkV.snoc (y := y) h2
    exact ⟨y', ⟨u, h1, k1⟩, k2⟩
theorem ixK_val {κ : Type} [DecidableEq κ] {v : V} {j : κ} : ∀ {ks : List κ} {vs : List V} {i : Nat}, ixK ks j = some i → vs[i]? = some v → valV (ks.zip vs) j = some v
  | [], _, _, h, _ => by simp [ixK] at h
  | k :: ks, [], i, _, h => by simp at h
  | k :: ks, w :: vs, i, h, e => by
    rw [ixK] at h
    rw [List.zip_cons_cons]
    by_cases q : k = j
    · rw [if_pos q] at h; cases h
      rw [valV_pos (show (k, w).1 = j from q)]
      simpa using e
    · rw [if_neg q] at h
      obtain ⟨i', h', rfl⟩ := Option.map_eq_some_iff.mp h
      rw [valV_neg (show ¬ (k, w).1 = j from q)]
      exact ixK_val h' (by simpa using e)
theorem ixK_look {v : V} {j : Str} : ∀ {ks : List Str} {vs : List V} {i : Nat}, ixK ks j = some i → vs[i]? = some v → (ks.zip vs).lookup j = some v
  | [], _, _, h, _ => by simp [ixK] at h
  | k :: ks, [], i, _, h => by simp at h
  | k :: ks, w :: vs, i, h, e => by
    rw [ixK] at h
    rw [List.zip_cons_cons, List.lookup_cons]
    by_cases q : k = j
    · rw [if_pos q] at h; cases h
      have q2 : (j == k) = true := beq_iff_eq.mpr q.symm
      rw [q2]
      simpa using e
    · rw [if_neg q] at h
      obtain ⟨i', h', rfl⟩ := Option.map_eq_some_iff.mp h
      have q2 : (j == k) = false := beq_eq_false_iff_ne.mpr (Ne.symm q)
      rw [q2]
      exact ixK_look h' (by simpa using e)
theorem swapL {α : Type} (x y z : List α) : (x ++ (y ++ z)).Perm (y ++ (x ++ z)) := by
  rw [← List.append_assoc, ← List.append_assoc]
  exact List.Perm.append_right z List.perm_append_comm
section
variable {m : M} {F F' H H' : Hp}
theorem Reps.focus : ∀ {vs : List V} {ds : List D} {A : List Addr} {i : Nat} {c : D}, Reps m F H vs ds A → ds[i]? = some c →
    ∃ y Ac Ao, vs[i]? = some y ∧ Rep m F H y c Ac ∧ A.Perm (Ac ++ Ao) ∧ ∀ (F' H' : Hp) (c' : D) (A' : List Addr), Same F F' → (∀ b ∈ Ao, H' b = H b) → Rep m F' H' y c' A' → ∃ B, Reps m F' H' vs (ds.set i c') B ∧ B.Perm (A' ++ Ao)
  | _, _, _, _, _, .nil, h => by simp at h
  | _, _, _, 0, c, .cons (v := v) (d := d) (A := A1) (B := B1) h r, e => by
    simp at e; subst e
    refine ⟨v, A1, B1, rfl, h, List.Perm.refl _, fun F' H' c' A' s k r' => ⟨A' ++ B1, .cons r' (r.mono s k), List.Perm.refl _⟩⟩
  | _, _, _, i + 1, c, .cons (v := v) (d := d) (A := A1) (B := B1) h r, e => by
    obtain ⟨y, Ac, Ao, h1, h2, h3, h4⟩ := Reps.focus (i := i) r (by simpa using e)
    refine ⟨y, Ac, A1 ++ Ao, by simpa using h1, h2, ?_, fun F' H' c' A' s k r' => ?_⟩
    · refine (List.Perm.append_left A1 h3).trans ?_
      rw [← List.append_assoc, ← List.append_assoc]
      exact List.Perm.append_right Ao List.perm_append_comm
    · obtain ⟨B, k1, k2⟩ := h4 F' H' c' A' s (fun b hb => k b (List.mem_append_right _ hb)) r'
      refine ⟨A1 ++ B, .cons (h.mono s fun b hb => k b (List.mem_append_left _ hb)) k1, ?_⟩
      refine (List.Perm.append_left A1 k2).trans ?_
      rw [← List.append_assoc, ← List.append_assoc]
      exact List.Perm.append_right Ao List.perm_append_comm
theorem step_of {k : Kd} {a : Addr} {vs : List V} {ex : List Addr} {s : Stp} {i : Nat} {v : V} (h : ObjO m F H k a vs ex) (e : childN k s = some i) (hv : vs[i]? = some v) : StepV H (.ref a) s v := by
  unfold childN at e
  split at e
  · obtain ⟨rfl, h1, h2, h3⟩ := h
    exact ⟨a, _, rfl, h3, ixK_val e hv⟩
  · obtain ⟨C, dx, h0, h1, h2, h3, h4⟩ := h
    exact ⟨a, C, dx, _, rfl, h3, ixK_look e hv⟩
  · cases e
theorem Rep.focus : ∀ {p : List Stp} {v : V} {d c : D} {A : List Addr}, Rep m F H v d A → getP d p = some c →
    ∃ y Ac Ao, WalkV H v p y ∧ Rep m F H y c Ac ∧ A.Perm (Ac ++ Ao) ∧ ∀ (F' H' : Hp) (c' d' : D) (A' : List Addr), Same F F' → (∀ b ∈ Ao, H' b = H b) → Rep m F' H' y c' A' → setP d p c' = some d' → ∃ B, Rep m F' H' v d' B ∧ B.Perm (A' ++ Ao)
  | [], v, d, c, A, h, e => by
    rw [getP] at e; cases e
    refine ⟨v, A, [], rfl, h, by simp, fun F' H' c' d' A' s k r' q => ?_⟩
    rw [setP] at q; cases q
    exact ⟨A', r', by simp⟩
  | s :: p, v, .at a, c, A, h, e => by rw [getP] at e; cases e
  | s :: p, v, .nd k xs, c, A, h, e => by
    rw [getP] at e
    split at e
    · rename_i ho
      obtain ⟨i, e1, e⟩ := Option.bind_eq_some_iff.mp e
      obtain ⟨d1, e2, e⟩ := Option.bind_eq_some_iff.mp e
      cases h with
      | fz h1 h2 h3 h4 => rw [ho] at h1; cases h1
      | ow h1 h2 h3 =>
        rename_i a vs A1 ex
        obtain ⟨y1, Ac1, Ao1, g1, g2, g3, g4⟩ := h3.focus e2
        obtain ⟨y, Ac, Ao, w1, w2, w3, w4⟩ := Rep.focus g2 e
        refine ⟨y, Ac, a :: (ex ++ (Ao ++ Ao1)), ⟨y1, step_of h2 e1 g1, w1⟩, w2, ?_, fun F' H' c' d' A' sm kk r' q => ?_⟩
        · have p1 : A1.Perm (Ac ++ (Ao ++ Ao1)) := g3.trans (by
            rw [← List.append_assoc]
            exact List.Perm.append_right Ao1 w3)
          refine (List.Perm.cons a (List.Perm.append_left ex p1)).trans ?_
          have p2 : (ex ++ (Ac ++ (Ao ++ Ao1))).Perm (Ac ++ (ex ++ (Ao ++ Ao1))) := swapL _ _ _
          exact (List.Perm.cons a p2).trans List.perm_middle.symm
        · rw [setP, e1, Option.bind_some, e2, Option.bind_some] at q
          obtain ⟨d1', q1, rfl⟩ := Option.map_eq_some_iff.mp q
          have kA : ∀ b ∈ Ao, H' b = H b := fun b hb => kk b (List.mem_cons_of_mem _ (List.mem_append_right _ (List.mem_append_left _ hb)))
          have kB : ∀ b ∈ Ao1, H' b = H b := fun b hb => kk b (List.mem_cons_of_mem _ (List.mem_append_right _ (List.mem_append_right _ hb)))
          obtain ⟨B1, b1, b2⟩ := w4 F' H' c' d1' A' sm kA r' q1
          obtain ⟨B2, b3, b4⟩ := g4 F' H' d1' B1 sm kB b1
          refine ⟨a :: (ex ++ B2), .ow ho (h2.mono sm fun b hb => kk b ?_) b3, ?_⟩
          · rcases List.mem_cons.mp hb with z | z
            · rw [z]; exact List.mem_cons_self
            · exact List.mem_cons_of_mem _ (List.mem_append_left _ z)
          · have p1 : B2.Perm (A' ++ (Ao ++ Ao1)) := b4.trans (by
              rw [← List.append_assoc]
              exact List.Perm.append_right Ao1 b2)
            refine (List.Perm.cons a (List.Perm.append_left ex p1)).trans ?_
            have p2 : (ex ++ (A' ++ (Ao ++ Ao1))).Perm (A' ++ (ex ++ (Ao ++ Ao1))) := swapL _ _ _
            exact (List.Perm.cons a p2).trans List.perm_middle.symm
    · cases e
end

/-! ### a change on data -/
abbrev MutF := Kd → List D → List D → Option (Kd × List D × D)
def getE (ρ : Env) (i : Nat) (p : List Stp) : Option D := match ρ[i]? with
  | some (some d) => getP d p
  | _ => none
def asNd : D → Option (Kd × List D)
  | .nd k xs => some (k, xs)
  | _ => none
def mutE (ρ : Env) (i : Nat) (p : List Stp) (u : MutF) (es : List D) : Option (Env × D) := match ρ[i]? with
  | some (some d) => ((getP d p).bind asNd).bind fun q => if q.1.own = true then (u q.1 q.2 es).bind fun r => if r.1.own = true then (setP d p (.nd r.1 r.2.1)).map fun d' => (ρ.set i (some d'), r.2.2) else none else none
  | _ => none
/-- a rule by values that changes the receiver, and its function on data -/
def LM (m : M) (r : V → List V → Hp → VK → Prop) (u : MutF) : Prop := ∀ (F H : Hp) (k : Kd) (a : Addr) (vs ws : List V) (ds es : List D) (A1 B1 ex : List Addr) (k' : Kd) (ds' : List D) (res : D) (Q : VK), Same F H → k.own = true → ObjO m F H k a vs ex → Reps m F H vs ds A1 → Reps m F H ws es B1 → u k ds es = some (k', ds', res) →
  (∀ (o' : HO) (vs' : List V) (rv : V) (A' B' : List Addr), ObjO m F (upd H a o') k' a vs' ex → Reps m F H vs' ds' A' → Rep m F H rv res B' → (∃ C, (A1 ++ B1).Perm (C ++ (A' ++ B'))) → Q rv (upd H a o')) → r (.ref a) ws H Q
theorem asNd_of {d : D} {q : Kd × List D} (h : asNd d = some q) : d = .nd q.1 q.2 := by
  unfold asNd at h
  split at h
  · cases h; rfl
  · cases h
section
variable {m : M} {c : Cz} {ρ ρ' : Env} {T : List D} {σ : Sl} {tv : List V} {H F F' H' : Hp} {A B : List Addr}
theorem ZS.mut {i : Nat} {p : List Stp} {u : MutF} {es : List D} {ws : List V} {res : D} {r : V → List V → Hp → VK → Prop} {Q : VK} (lm : LM m r u) (s : ZS m c ρ (es ++ T) σ (ws ++ tv) H) (hl : es.length = ws.length) (e : mutE ρ i p u es = some (ρ', res))
    (k : ∀ rv H', ZS m c ρ' (res :: T) σ (rv :: tv) H' → Q rv H') : ∃ x y, σ[i]? = some (some x) ∧ WalkV H x p y ∧ r y ws H Q := by
  obtain ⟨F, A, B, s⟩ := s
  unfold mutE at e
  split at e
  · rename_i d ed
    obtain ⟨⟨k0, ds⟩, e1, e⟩ := Option.bind_eq_some_iff.mp e
    obtain ⟨c0, e1, e2⟩ := Option.bind_eq_some_iff.mp e1
    have e2 := asNd_of e2
    subst e2
    dsimp only at e e1
    split at e
    · rename_i hko
      obtain ⟨⟨k', ds', res'⟩, e3, e⟩ := Option.bind_eq_some_iff.mp e
      dsimp only at e
      split at e
      · rename_i hko'
        obtain ⟨d', e4, e5⟩ := Option.map_eq_some_iff.mp e
        cases e5
        obtain ⟨x, A1, A2, h1, h2, h3, h4⟩ := s.sl.take ed
        obtain ⟨y, Ac, Ao, w1, w2, w3, w4⟩ := h2.focus e1
        refine ⟨x, y, h1, w1, ?_⟩
        obtain ⟨B1, B2, r1, r2, rfl⟩ := Reps.mid hl s.tm
        cases w2 with
        | fz q1 q2 q3 q4 => rw [hko] at q1; cases q1
        | ow q1 q2 q3 =>
          rename_i a vs C1 ex
          refine lm F H k0 a vs ws ds es C1 B1 ex k' ds' res Q s.sub hko q2 q3 r1 e3 fun o' vs' rv A' B' g1 g2 g3 ⟨C, g4⟩ => k rv _ ?_
          -- the whole list of places
          have P : (A ++ (B1 ++ B2)).Perm (a :: (ex ++ ((C1 ++ B1) ++ (Ao ++ (A2 ++ B2))))) := by
            have p1 : A.Perm (a :: (ex ++ (C1 ++ (Ao ++ A2)))) := by
              refine h4.trans ((List.Perm.append_right A2 w3).trans ?_)
              simp [List.append_assoc]
            refine (List.Perm.append_right (B1 ++ B2) p1).trans ?_
            simp only [List.cons_append, List.append_assoc]
            refine List.Perm.cons a (List.Perm.append_left ex (List.Perm.append_left C1 ?_))
            rw [← List.append_assoc, ← List.append_assoc Ao A2 B2, ← List.append_assoc, ← List.append_assoc]
            refine List.Perm.append_right B2 ?_
            refine List.perm_append_comm.trans ?_
            simp
          have nd := P.nodup_iff.mp s.nd
          rw [List.nodup_cons] at nd
          obtain ⟨na, nd⟩ := nd
          have Fa : F a = none := s.nf a (P.mem_iff.mpr List.mem_cons_self)
          have sF : Same F (upd H a o') := fun b o hb => by
            have ne : b ≠ a := fun z => by rw [z, Fa] at hb; cases hb
            rw [upd_ne ne]; exact s.sub _ _ hb
          have keepB : ∀ b, b ≠ a → upd H a o' b = H b := fun b hb => upd_ne hb
          have ne_of : ∀ b, b ∈ ex ++ ((C1 ++ B1) ++ (Ao ++ (A2 ++ B2))) → b ≠ a := fun b hb z => na (z ▸ hb)
          have inA' : ∀ b ∈ A' ++ B', b ∈ C1 ++ B1 := fun b hb => g4.mem_iff.mpr (List.mem_append_right _ hb)
          have neM : ∀ b ∈ C1 ++ B1, b ≠ a := fun b hb => ne_of b (List.mem_append_right _ (List.mem_append_left _ hb))
          have neO : ∀ b ∈ Ao ++ (A2 ++ B2), b ≠ a := fun b hb => ne_of b (List.mem_append_right _ (List.mem_append_right _ hb))
          have R1 : Rep m F (upd H a o') (.ref a) (.nd k' ds') (a :: (ex ++ A')) := .ow hko' g1 (g2.mono (Same.refl _) fun b hb => keepB b (neM b (inA' b (List.mem_append_left _ hb))))
          obtain ⟨D1, d1, d2⟩ := w4 F (upd H a o') (.nd k' ds') d' _ (Same.refl _) (fun b hb => keepB b (neO b (List.mem_append_left _ hb))) R1 e4
          have S1 : RepE m F (upd H a o') σ (ρ.set i none) A2 := h3.mono (Same.refl _) fun b hb => keepB b (neO b (List.mem_append_right _ (List.mem_append_left _ hb)))
          obtain ⟨E1, s1, s2⟩ := S1.put (getNone ed) h1 d1
          rw [List.set_set] at s1
          have PP : (C ++ (E1 ++ (B' ++ B2))).Perm (A ++ (B1 ++ B2)) := by
            refine List.Perm.trans ?_ P.symm
            have p1 : E1.Perm (a :: (ex ++ (A' ++ (Ao ++ A2)))) := by
              refine s2.trans ((List.Perm.append_right A2 d2).trans ?_)
              simp [List.append_assoc]
            have p2 : (C ++ (E1 ++ (B' ++ B2))).Perm (C ++ ((a :: (ex ++ (A' ++ (Ao ++ A2)))) ++ (B' ++ B2))) := List.Perm.append_left C (List.Perm.append_right _ p1)
            refine p2.trans ?_
            rw [List.cons_append]
            refine List.perm_middle.trans (List.Perm.cons a ?_)
            have p3 : (C ++ (ex ++ (A' ++ (Ao ++ A2)) ++ (B' ++ B2))).Perm (ex ++ ((C ++ (A' ++ B')) ++ (Ao ++ (A2 ++ B2)))) := by
              simp only [List.append_assoc]
              refine (swapL C ex _).trans (List.Perm.append_left ex (List.Perm.append_left C (List.Perm.append_left A' ?_)))
              have p4 : (Ao ++ (A2 ++ (B' ++ B2))).Perm (Ao ++ (B' ++ (A2 ++ B2))) := List.Perm.append_left Ao (swapL A2 B' B2)
              exact p4.trans (swapL Ao B' _)
            refine p3.trans (List.Perm.append_left ex (List.Perm.append_right _ g4.symm))
          have sub : ∀ b ∈ E1 ++ (B' ++ B2), b ∈ A ++ (B1 ++ B2) := fun b hb => PP.mem_iff.mp (List.mem_append_right _ hb)
          have hpl : a ∈ A ++ (B1 ++ B2) := P.mem_iff.mpr List.mem_cons_self
          refine ⟨F, E1, B' ++ B2, sF, s1, .cons (g3.mono (Same.refl _) fun b hb => keepB b (neM b (inA' b (List.mem_append_right _ hb)))) (r2.mono (Same.refl _) fun b hb => keepB b (neO b (List.mem_append_right _ (List.mem_append_right _ hb)))), ?_, fun b hb => s.nf b (sub b hb), s.fin, s.fnw, fun b hb => s.own b (sub b hb), fun b o h5 h6 => ?_, fun b hb => ?_, s.par⟩
          · exact (List.nodup_append.mp (PP.nodup_iff.mpr s.nd)).2.1
          · have ne : b ≠ a := fun z => by
              subst z
              rcases s.own b hpl with q | q
              · exact h6 q
              · rw [q] at h5; cases h5
            rw [keepB b ne]
            exact s.keep b o h5 h6
          · have ne : b ≠ a := fun z => by
              subst z
              rw [upd_same] at hb; cases hb
            rw [keepB b ne] at hb
            exact s.thr b hb
      · cases e
    · cases e
  · cases e
end

/-! ### the receiver -/
def tPl (i : Nat) (p : List Stp) : TE := fun σ H Q => ∃ x y, σ[i]? = some (some x) ∧ WalkV H x p y ∧ Q y H
theorem pe_pl0 {X : Cx} {e : Expr} {i : Nat} (h : PE X e (tVar i)) : PE X e (tPl i []) := peImp h fun σ H Q ⟨x, y, h1, h2, q⟩ => by
  cases h2
  exact ⟨x, h1, q⟩
theorem pe_plK {X : Cx} {o : Expr} {i : Nat} {p : List Stp} {t : Str} {j : Nat} {q0 pos : Pos} (hu : X.A.units + 64 < cLine) (h : PE X o (tPl i p)) (hs : PlainIx (.Constant (.str t) j q0) := by exact fun _ _ => rfl) : PE X (.Subscript o (.Constant (.str t) j q0) pos) (tPl i (p ++ [.key t])) :=
  peImp (pe_ix (ix_dk hu) h pe_str hs) fun σ H Q ⟨x, z, h1, h2, q⟩ => by
    obtain ⟨y, w1, a, kvs, rfl, e1, e2⟩ := WalkV.snoc (y := z) h2
    refine ⟨x, _, h1, w1, ?_⟩
    refine ⟨a, z, rfl, ?_, q⟩
    rw [← e2]
    exact DGet.k (k := .inr t) e1
def kdTy : Kd → Option String
  | .lst _ => some "list"
  | .dk _ _ => some "dict"
  | _ => none
def plTy (T : String) (ρ : Env) (i : Nat) (p : List Stp) : Bool := match (getE ρ i p).bind asNd with
  | some q => q.1.own && decide (kdTy q.1 = some T)
  | none => false
def zMut (T : String) (i : Nat) (p : List Stp) (u : MutF) (fs : List EF) : EF := fun ρ => if plTy T ρ i p = true then (evL fs ρ).bind fun es ρ1 => match mutE ρ1 i p u es with
  | some (ρ2, res) => .ok res ρ2
  | none => .stuck
  else .stuck
theorem ty_of {m : M} {F H : Hp} {k : Kd} {a : Addr} {vs : List V} {ex : List Addr} {T : String} (h : ObjO m F H k a vs ex) (e : kdTy k = some T) : tyV m.K T (.ref a) H := by
  cases k with
  | tup => exact h.elim
  | scr => exact h.elim
  | tpn => exact h.elim
  | dw _ => exact h.elim
  | lst o =>
    cases e
    obtain ⟨rfl, h⟩ := h
    exact .inl ⟨rfl, _, SqL.of h⟩
  | dk o ks =>
    cases e
    obtain ⟨rfl, h1, h2, h3⟩ := h
    exact .inr (.inr (.inl ⟨rfl, .inl ⟨_, h3⟩⟩))
  | dn o ks => cases e
  | ins o c ns => cases e
  | fn _ => exact h.elim
  | exc _ _ => exact h.elim
  | dl _ _ => exact h.elim
theorem pl_ty {m : M} {c : Cz} {ρ : Env} {T : List D} {σ : Sl} {tv : List V} {H : Hp} {ty : String} {i : Nat} {p : List Stp} (s : ZS m c ρ T σ tv H) (h : plTy ty ρ i p = true) : ∃ x y, σ[i]? = some (some x) ∧ WalkV H x p y ∧ tyV m.K ty y H := by
  unfold plTy at h
  split at h
  · rename_i q e
    rw [Bool.and_eq_true] at h
    obtain ⟨c0, e1, e2⟩ := Option.bind_eq_some_iff.mp e
    have e2 := asNd_of e2
    subst e2
    unfold getE at e1
    split at e1
    · rename_i d ed
      obtain ⟨F, A, B, s⟩ := s
      obtain ⟨x, A1, A2, h1, h2, h3, h4⟩ := s.sl.take ed
      obtain ⟨y, Ac, Ao, w1, w2, w3, w4⟩ := h2.focus e1
      refine ⟨x, y, h1, w1, ?_⟩
      cases w2 with
      | fz q1 q2 q3 q4 => rw [h.1] at q1; cases q1
      | ow q1 q2 q3 => exact ty_of q2 (of_decide_eq_true h.2)
    · cases e1
  · cases h
section
variable {X : Cx} {W : WX} {pos : Pos} {p1 p2 p3 : Bool} {o e : Expr} {es : List Expr} {ps : List (Bool × Opd)} {fs : List EF} {name : Str} {apos cpos : Pos} {T id : String} {r : V → List V → Hp → VK → Prop} {i : Nat} {p : List Stp} {u : MutF}
/-- o.name(..), that changes o -/
theorem ze_mut (pa : PlainAttrs T) (slot : Slot T name id) (hty : typeOf (.builtin id) = pure (.type "method_descriptor")) (hm : MtR X id r) (lm : LM (mOf X) r u) (ho : PE X o (tPl i p)) (ha : ZOs X W (e :: es) ps) (hf : ps.map (·.2) = fs.map Opd.v) (hp : p = [] ∨ ps.all (·.1) = true)
    (hbase : attributeBase o name X.env (eval o X.env) = eval o X.env := by rfl)
    (hfew : ((backTo cpos (starEach (e :: es) X.env)).all (fun x => !x.1) && (backToKw cpos (keywordEach [] X.env)).all (fun x => x.1.isSome)
      && decide ((e :: es).length + ([] : List Keyword).length + (if ([] : List Keyword).isEmpty then 0 else 1) < 30)) = true := by rfl)
    (hline : (apos.endLine == cpos.line) = true := by rfl) (hs : starEach (e :: es) X.env = (false, eval e X.env) :: starEach es X.env := by rfl) (hplain : (backTo cpos (starEach es X.env)).any (·.1) = false := by rfl) :
    ZE X W false (.Call (.Attribute o name apos) (e :: es) [] cpos) (zMut T i p u fs) :=
  peImp (pe_bm pa slot hty hm ho ha hbase hfew hline hs hplain) fun σ H Q ⟨c, ρ, Tt, tv, s, q⟩ => by
    unfold zMut at q
    split at q
    · rename_i hpt
      obtain ⟨x, y, h1, h2, h3⟩ := pl_ty s hpt
      refine ⟨x, y, h1, h2, h3, tLs_run hf s ?_⟩
      cases e2 : evL fs ρ with
      | stuck => rw [e2] at q; exact q
      | ex z ρ1 => rw [e2] at q; exact q
      | ok ds ρ1 =>
        rw [e2] at q
        intro vs H1 s1 hl k1
        have q : ZPost (mOf X) W false c Tt σ tv H Q (match mutE ρ1 i p u ds with
          | some (ρ2, res) => R.ok res ρ2
          | none => R.stuck) := q
        cases e3 : mutE ρ1 i p u ds with
        | none => rw [e3] at q; exact q.elim
        | some w =>
          obtain ⟨ρ2, res⟩ := w
          rw [e3] at q
          obtain ⟨x', y', g1, g2, g3⟩ := s1.mut lm hl e3 fun rv H' s' => q rv H' s' fun z => nomatch z
          rw [h1] at g1; cases g1
          have ey : y' = y := by
            rcases hp with rfl | hp
            · exact WalkV.det (H := H1) g2 (show WalkV H1 x [] y from h2)
            · exact WalkV.det g2 (h2.mono (k1 hp))
          rw [ey] at g3
          exact g3
    · exact q.elim
/-- o[..] = .. -/
def rSt (t : TSet) : V → List V → Hp → VK → Prop := fun x ws H Q => match ws with
  | [iv, v] => t x iv v H (fun H' => Q .non H')
  | _ => True
def tgSub (i : Nat) (p : List Stp) (f : EF) (u : MutF) : TgF := fun d ρ => if (getE ρ i p).isSome = true then (match f ρ with
  | .ok kd ρ1 => (mutE ρ1 i p u [kd, d]).map (·.1)
  | _ => none) else none
theorem pl_at {m : M} {c : Cz} {ρ : Env} {T : List D} {σ : Sl} {tv : List V} {H : Hp} {i : Nat} {p : List Stp} (s : ZS m c ρ T σ tv H) (h : (getE ρ i p).isSome = true) : ∃ x y, σ[i]? = some (some x) ∧ WalkV H x p y := by
  unfold getE at h
  split at h
  · rename_i d ed
    obtain ⟨c0, e1⟩ := Option.isSome_iff_exists.mp h
    obtain ⟨F, A, B, s⟩ := s
    obtain ⟨x, A1, A2, h1, h2, h3, h4⟩ := s.sl.take ed
    obtain ⟨y, Ac, Ao, w1, w2, w3, w4⟩ := h2.focus e1
    exact ⟨x, y, h1, w1⟩
  · cases h
theorem zg_sub {t : TSet} {ix : Expr} {kp : List Nat} {f : EF} (hs : PSet X t) (lm : LM (mOf X) (rSt t) u) (ho : PE X o (tPl i p)) (hi : ZE X W p2 ix f) (hp : p = [] ∨ p2 = true)
    (ha : ∀ v, assign (.Subscript o ix pos) X.env v = (do
      let ov ← holding [v] (eval o X.env)
      let iv ← holding [v, ov] (eval ix X.env)
      standAt pos
      holding [v, ov, iv] (setItem ov iv v)
      release [v, ov, iv] []) := by intro _; rfl) : ZG X kp (.Subscript o ix pos) (tgSub i p f u) :=
  pgImp (pg_sub ho hi hs ha) fun v σ H Q ⟨c, ρ, Tt, tv, d, k, s, q⟩ => by
    unfold tgSub at q
    split at q
    · rename_i hpt
      obtain ⟨x, y, h1, h2⟩ := pl_at s hpt
      refine ⟨x, y, h1, h2, c, ρ, d :: Tt, v :: tv, s, ?_⟩
      cases e2 : f ρ with
      | stuck => rw [e2] at q; exact q
      | ex z ρ1 => rw [e2] at q; exact q.elim
      | ok kd ρ1 =>
        rw [e2] at q
        intro iv H1 s1 k1
        dsimp only at q
        cases e3 : mutE ρ1 i p u [kd, d] with
        | none => rw [e3] at q; exact q.elim
        | some w =>
          obtain ⟨ρ2, res⟩ := w
          rw [e3] at q
          obtain ⟨x', y', g1, g2, g3⟩ := ZS.mut (es := [kd, d]) (ws := [iv, v]) lm s1 rfl e3 (Q := fun _ H' => Q σ H') fun rv H' s' => q σ H' s'.pop
          rw [h1] at g1; cases g1
          have ey : y' = y := by
            rcases hp with rfl | hp
            · exact WalkV.det (H := H1) g2 (show WalkV H1 x [] y from h2)
            · exact WalkV.det g2 (h2.mono (k1 hp))
          rw [ey] at g3
          exact g3
    · exact q.elim
end

/-! ### lists -/
def uAppend : MutF := fun k ds es => match k, es with
  | .lst o, [e] => if ds.length < sizeLine then some (.lst o, ds ++ [e], .at .non) else none
  | _, _ => none
def uSetL : MutF := fun k ds es => match k, es with
  | .lst o, [.at (.int j), e] => (ixN ds.length j).map fun n => (.lst o, ds.set n e, .at .non)
  | _, _ => none
theorem lm_append {m : M} : LM m rAppend uAppend := by
  intro F H k a vs ws ds es A1 B1 ex k' ds' res Q sm hk hO r1 r2 hu q
  unfold uAppend at hu
  split at hu
  · split at hu
    · rename_i o e hz
      cases hu
      obtain ⟨rfl, hO⟩ := hO
      obtain ⟨y, rfl, B', hy⟩ : ∃ y, ws = [y] ∧ ∃ B', Rep m F H y e B' ∧ B1 = B' := by
        cases r2 with
        | cons h r => cases r; exact ⟨_, rfl, _, h, by simp⟩
      obtain ⟨hy, rfl⟩ := hy
      refine ⟨a, vs, y, rfl, rfl, hO, by rw [r1.length]; exact hz, ?_⟩
      refine q (.lst (vs ++ [y])) (vs ++ [y]) .non (A1 ++ (B1 ++ [])) [] ⟨rfl, upd_same⟩ (r1.append (.cons hy .nil)) (.at .non) ⟨[], by simp⟩
    · cases hu
  · cases hu
theorem Reps.setAt {m : M} {F H : Hp} {y : V} {e : D} {B : List Addr} (hy : Rep m F H y e B) : ∀ {vs : List V} {ds : List D} {A : List Addr} {n : Nat}, Reps m F H vs ds A → ∃ A' C, Reps m F H (vs.set n y) (ds.set n e) A' ∧ (A ++ B).Perm (C ++ A')
  | _, _, _, n, .nil => ⟨[], B, .nil, by simp⟩
  | _, _, _, 0, .cons (A := A1) (B := A2) h r => ⟨B ++ A2, A1, .cons hy r, by
    rw [List.append_assoc]
    exact List.Perm.append_left A1 List.perm_append_comm⟩
  | _, _, _, n + 1, .cons (A := A1) (B := A2) h r => by
    obtain ⟨A', C, r', p⟩ := Reps.setAt hy (n := n) r
    refine ⟨A1 ++ A', C, .cons h r', ?_⟩
    rw [List.append_assoc]
    exact (List.Perm.append_left A1 p).trans (swapL A1 C A')
theorem reps2' {m : M} {F H : Hp} {vs : List V} {d1 d2 : D} {A : List Addr} (r : Reps m F H vs [d1, d2] A) : ∃ x y A1 A2, vs = [x, y] ∧ Rep m F H x d1 A1 ∧ Rep m F H y d2 A2 ∧ A = A1 ++ A2 := by
  cases r with
  | cons h r =>
    cases r with
    | cons h' r => cases r; exact ⟨_, _, _, _, rfl, h, h', by simp⟩
theorem lm_setL {m : M} : LM m (rSt rSetL) uSetL := by
  intro F H k a vs ws ds es A1 B1 ex k' ds' res Q sm hk hO r1 r2 hu q
  unfold uSetL at hu
  split at hu
  · rename_i o j e
    obtain ⟨n, hn, e2⟩ := Option.map_eq_some_iff.mp hu
    cases e2
    obtain ⟨rfl, hO⟩ := hO
    obtain ⟨x, y, C1, C2, rfl, hx, hy, rfl⟩ := reps2' r2
    cases hx
    obtain ⟨A', C, r', p⟩ := Reps.setAt hy (n := n) r1
    refine ⟨a, vs, j, n, rfl, rfl, hO, by rw [r1.length]; exact hn, ?_⟩
    exact q (.lst (vs.set n y)) (vs.set n y) .non A' [] ⟨rfl, upd_same⟩ r' (.at .non) ⟨C, by simpa using p⟩
  · cases hu
section
variable {X : Cx} {W : WX} {pos : Pos} {p1 p2 p3 : Bool} {o e : Expr} {f : EF} {apos cpos : Pos} {i : Nat} {p : List Stp}
theorem ze_append (ho : PE X o (tPl i p)) (ha : ZE X W p1 e f) (hp : p = [] ∨ ([(p1, Opd.v f)] : List (Bool × Opd)).all (·.1) = true) (hbase : attributeBase o "append" X.env (eval o X.env) = eval o X.env := by rfl)
    (hfew : ((backTo cpos (starEach [e] X.env)).all (fun x => !x.1) && (backToKw cpos (keywordEach [] X.env)).all (fun x => x.1.isSome)
      && decide (([e] : List Expr).length + ([] : List Keyword).length + (if ([] : List Keyword).isEmpty then 0 else 1) < 30)) = true := by rfl)
    (hline : (apos.endLine == cpos.line) = true := by rfl) (hs : starEach [e] X.env = (false, eval e X.env) :: starEach [] X.env := by rfl) (hplain : (backTo cpos (starEach [] X.env)).any (·.1) = false := by rfl) :
    ZE X W false (.Call (.Attribute o "append" apos) [e] [] cpos) (zMut "list" i p uAppend [f]) :=
  ze_mut PySem.F.plainAttrs_list PySem.F.slot_list_append PySem.F.type_list_append mt_append lm_append ho (zos_cons (zo_val ha) zos_nil hs) rfl hp hbase hfew hline hs hplain
end

/-! ### dicts with plain keys -/
def putD {κ : Type} [DecidableEq κ] (ks : List κ) (ds : List D) (j : κ) (e : D) : List κ × List D := match ixK ks j with
  | some n => (ks, ds.set n e)
  | none => (ks ++ [j], ds ++ [e])
def uSetK : MutF := fun k ds es => match k, es with
  | .dk o ks, [y, e] => y.pkey.bind fun j => if ks.length < sizeLine then some (.dk o (putD ks ds j e).1, (putD ks ds j e).2, .at .non) else none
  | _, _ => none
def rPutK : TSet := fun x i v H Q => ∃ a H', x = .ref a ∧ DPut H a i v H' ∧ Q H'
theorem set_dk {X : Cx} (hu : X.A.units + 64 < cLine) : PSet X rPutK := by
  intro pins s σ H o i v ov iv u Q I ro ri rv h
  obtain ⟨a, H', rfl, g, q⟩ := h
  cases (show ov = Value.ref a from ro)
  exact d_setItem (by omega) I g ri rv fun s' I' => ⟨H', I', q⟩
end Z

set_option Elab.async false
set_option linter.all false
set_option maxRecDepth 100000
set_option maxHeartbeats 4000000
/-! Z10: dicts: stores, displays. -/
namespace Z
open PySem PySem.Spec PyProof.Rows L2

/-! ### tables -/
section
variable {α κ : Type} [DecidableEq κ]
theorem ixK_none {j : κ} : ∀ {ks : List κ}, ixK ks j = none → j ∉ ks
  | [], _, h => nomatch h
  | k :: ks, e, h => by
    rw [ixK] at e
    by_cases q : k = j
    · rw [if_pos q] at e; cases e
    · rw [if_neg q] at e
      rcases List.mem_cons.mp h with z | z
      · exact q z.symm
      · exact ixK_none (Option.map_eq_none_iff.mp e) z
theorem ixK_mem {j : κ} : ∀ {ks : List κ} {n : Nat}, ixK ks j = some n → ks[n]? = some j
  | [], _, e => by simp [ixK] at e
  | k :: ks, n, e => by
    rw [ixK] at e
    by_cases q : k = j
    · rw [if_pos q] at e; cases e
      simpa using q
    · rw [if_neg q] at e
      obtain ⟨n', e', rfl⟩ := Option.map_eq_some_iff.mp e
      simpa using ixK_mem e'
theorem map_upd (key : α → κ) (val : α → V) (f : α → α) (j : κ) (v : V) (hv : ∀ a, val (f a) = if key a = j then v else val a) : ∀ {l : List α} {n : Nat}, (l.map key).Nodup → ixK (l.map key) j = some n → (l.map f).map val = (l.map val).set n v
  | [], _, _, e => by simp [ixK] at e
  | a :: l, n, nd, e => by
    rw [List.map_cons, List.nodup_cons] at nd
    rw [List.map_cons, ixK] at e
    by_cases q : key a = j
    · rw [if_pos q] at e; cases e
      rw [List.map_cons, List.map_cons, List.map_cons, List.set_cons_zero, hv, if_pos q]
      congr 1
      rw [List.map_map]
      refine List.map_congr_left fun b hb => ?_
      show val (f b) = val b
      rw [hv, if_neg]
      intro z
      exact nd.1 (by rw [q, ← z]; exact List.mem_map_of_mem hb)
    · rw [if_neg q] at e
      obtain ⟨n', e', rfl⟩ := Option.map_eq_some_iff.mp e
      rw [List.map_cons, List.map_cons, List.map_cons, List.set_cons_succ, hv, if_neg q, map_upd key val f j v hv nd.2 e']
theorem zip_map {β : Type} : ∀ (l : List (κ × β)), (l.map (·.1)).zip (l.map (·.2)) = l
  | [] => rfl
  | p :: l => by rw [List.map_cons, List.map_cons, List.zip_cons_cons, zip_map l]
theorem fst_zip {β : Type} : ∀ {ks : List κ} {vs : List β}, ks.length = vs.length → (ks.zip vs).map (·.1) = ks
  | [], [], _ => rfl
  | k :: ks, v :: vs, h => by rw [List.zip_cons_cons, List.map_cons, fst_zip (by simpa using h)]
  | [], _ :: _, h => by simp at h
  | _ :: _, [], h => by simp at h
theorem snd_zip {β : Type} : ∀ {ks : List κ} {vs : List β}, ks.length = vs.length → (ks.zip vs).map (·.2) = vs
  | [], [], _ => rfl
  | k :: ks, v :: vs, h => by rw [List.zip_cons_cons, List.map_cons, snd_zip (by simpa using h)]
  | [], _ :: _, h => by simp at h
  | _ :: _, [], h => by simp at h
theorem ixK_any {β : Type} {j : κ} : ∀ {l : List (κ × β)}, (l.any fun kv => decide (kv.1 = j)) = (ixK (l.map (·.1)) j).isSome
  | [] => rfl
  | p :: l => by
    rw [List.any_cons, List.map_cons, ixK]
    by_cases q : p.1 = j
    · rw [if_pos q, decide_eq_true q]; rfl
    · rw [if_neg q, decide_eq_false q, Option.isSome_map, ← ixK_any (l := l)]; rfl
theorem putK_at {v : V} {j : κ} {ks : List κ} {vs : List V} {n : Nat} (hl : ks.length = vs.length) (nd : ks.Nodup) (e : ixK ks j = some n) : putK (ks.zip vs) j v = ks.zip (vs.set n v) := by
  have ef := fst_zip (κ := κ) hl
  have es := snd_zip (κ := κ) hl
  unfold putK
  rw [ixK_any, ef, e, if_pos (Option.isSome_some (a := n))]
  have h1 := map_upd (l := ks.zip vs) (fun p : κ × V => p.1) (fun p => p.2) (fun kv => if kv.1 = j then (kv.1, v) else kv) j v (fun a => by
    by_cases q : a.1 = j
    · rw [if_pos q, if_pos q]
    · rw [if_neg q, if_neg q]) (by rw [show (ks.zip vs).map (fun p : κ × V => p.1) = ks from ef]; exact nd) (by rw [show (ks.zip vs).map (fun p : κ × V => p.1) = ks from ef]; exact e)
  have h2 : ((ks.zip vs).map fun kv => if kv.1 = j then (kv.1, v) else kv).map (·.1) = ks := by
    rw [List.map_map]
    refine Eq.trans (List.map_congr_left fun a _ => ?_) ef
    show (if a.1 = j then (a.1, v) else a).1 = a.1
    split <;> rfl
  rw [← zip_map ((ks.zip vs).map fun kv => if kv.1 = j then (kv.1, v) else kv), h2, h1]
  rw [show (ks.zip vs).map (fun p : κ × V => p.2) = vs from es]
theorem zip_snoc {β : Type} : ∀ {ks : List κ} {vs : List β} {j : κ} {v : β}, ks.length = vs.length → (ks ++ [j]).zip (vs ++ [v]) = ks.zip vs ++ [(j, v)]
  | [], [], _, _, _ => rfl
  | k :: ks, w :: vs, j, v, h => by
    rw [List.cons_append, List.cons_append, List.zip_cons_cons, zip_snoc (by simpa using h), List.zip_cons_cons, List.cons_append]
  | [], _ :: _, _, _, h => by simp at h
  | _ :: _, [], _, _, h => by simp at h
theorem putK_new {v : V} {j : κ} {ks : List κ} {vs : List V} (hl : ks.length = vs.length) (e : ixK ks j = none) : putK (ks.zip vs) j v = (ks ++ [j]).zip (vs ++ [v]) := by
  unfold putK
  rw [ixK_any, fst_zip hl, e, if_neg (by simp), zip_snoc hl]
theorem nodup_snoc {ks : List κ} {j : κ} (h : ks.Nodup) (e : ixK ks j = none) : (ks ++ [j]).Nodup := by
  rw [List.nodup_append]
  refine ⟨h, by simp, fun a ha b hb q => ?_⟩
  have : b = j := by simpa using hb
  subst this
  exact ixK_none e (q ▸ ha)
end
/-! ### plain keys -/
theorem lm_setK {m : M} : LM m (rSt rPutK) uSetK := by
  intro F H k a vs ws ds es A1 B1 ex k' ds' res Q sm hk hO r1 r2 hu q
  unfold uSetK at hu
  split at hu
  · rename_i o ks y e
    obtain ⟨j, hj, hu⟩ := Option.bind_eq_some_iff.mp hu
    split at hu
    · rename_i hz
      obtain ⟨rfl, h1, h2, h3⟩ := hO
      obtain ⟨x, v, C1, C2, rfl, hx, hy, rfl⟩ := reps2' r2
      have ex1 := hx.pkey hj
      subst ex1
      cases hu
      have hlz : (ks.zip vs).length < sizeLine := by
        rw [List.length_zip, ← h1, Nat.min_self]; exact hz
      refine ⟨a, _, rfl, DPut.k h3 hlz, ?_⟩
      unfold putD at q
      split at q
      · rename_i n hn
        obtain ⟨A', C, r', p⟩ := Reps.setAt hy (n := n) r1
        refine q (.dK (putK (ks.zip vs) j v)) (vs.set n v) .non A' [] ⟨rfl, by rw [List.length_set]; exact h1, h2, ?_⟩ r' (.at .non) ⟨C1 ++ C, ?_⟩
        · rw [upd_same, putK_at h1 h2 hn]
        · rw [List.append_nil, List.append_assoc]
          exact (swapL A1 C1 C2).trans (List.Perm.append_left C1 p)
      · rename_i hn
        refine q (.dK (putK (ks.zip vs) j v)) (vs ++ [v]) .non (A1 ++ (C2 ++ [])) [] ⟨rfl, by simp [h1], nodup_snoc h2 hn, ?_⟩ (r1.append (.cons hy .nil)) (.at .non) ⟨C1, ?_⟩
        · rw [upd_same, putK_new h1 hn]
        · simp only [List.append_nil]
          exact swapL A1 C1 C2
    · cases hu
  · cases hu

/-! ### keys that are tuples -/
def stE (es : List (NestedKey × Addr × V)) (k : NestedKey) (b : Addr) (v : V) : List (NestedKey × Addr × V) :=
  if (entAt es k).isSome = true then es.map (fun e => if e.1 = k then (e.1, e.2.1, v) else e) else es ++ [(k, b, v)]
def rPutN (P : Program) (w : World) (K : PySem.W.Frag) : TSet := fun x y v H Q => ∃ a b es k, x = .ref a ∧ y = .ref b ∧ DnG P w K H a y es k ∧ es.length < sizeLine ∧ ∀ o, Q (upd H a (dnO P w a o (stE es k b v)))
theorem stE_pair {es : List (NestedKey × Addr × V)} {xs : List (NestedKey × Addr × Value)} (r : Paired REnt es xs) {k : NestedKey} {b : Addr} {v : V} {u : Value} (rv : RelV v u) : Paired REnt (stE es k b v) (storedH xs k b u) := by
  have hs : (entAt es k).isSome = (atKey xs k).isSome := by
    have := (ent_val r k).isSome_eq
    rw [Option.isSome_map] at this
    exact this
  unfold stE storedH
  rw [hs]
  generalize (atKey xs k).isSome = bb
  cases bb with
  | true =>
    rw [if_pos rfl, if_pos rfl]
    clear hs
    induction r with
    | nil => exact .nil
    | @cons p q ps qs h t ih =>
      rw [List.map_cons, List.map_cons]
      refine .cons ?_ ih
      obtain ⟨h1, h2, h3⟩ := h
      unfold putAt
      by_cases e : p.1 = k
      · rw [if_pos e, if_pos (h1.symm.trans e)]
        exact ⟨h1, h2, rv⟩
      · rw [if_neg e, if_neg (fun z => e (h1.trans z))]
        exact ⟨h1, h2, h3⟩
  | false =>
    rw [if_neg Bool.false_ne_true, if_neg Bool.false_ne_true]
    clear hs
    induction r with
    | nil => exact .cons ⟨rfl, rfl, rv⟩ .nil
    | @cons p q ps qs h t ih => exact .cons h ih
theorem set_dn {X : Cx} (hu : X.A.units + 64 < cLine) : PSet X (rPutN X.prog X.w X.K) := by
  intro pins s σ H o i v ov iv u Q I ro ri rv h
  obtain ⟨a, b, es, k, rfl, rfl, g, hz, q⟩ := h
  cases (show ov = Value.ref a from ro)
  have g0 := g
  obtain ⟨b', xs, e1, e2, r1, d, hk, hr⟩ := g.to hu I ri
  cases e1
  cases e2
  have hlx : xs.length = es.length := (Paired.length r1).symm
  refine wpAny_setItem_heap (hsz := by rw [hlx]; omega) hr hk d fun h' dd' hs => ?_
  obtain ⟨o', z⟩ := dn_new (P := X.prog) (w := X.w) (stE_pair r1 rv) dd'
  refine ⟨upd H a (dnO X.prog X.w a o' (stE es k b v)), ?_, q o'⟩
  have he : ∃ q, h'.get? a = some q := let ⟨q, _, _, hq, _⟩ := dd'; ⟨q, hq⟩
  have mu : Mut (H a) := by obtain ⟨o, e⟩ := g0.1; rw [e]; exact True.intro
  exact d_write I mu hs he (z _)
def uSetN : MutF := fun k ds es => match k, es with
  | .dn o ks, [.nd .tup ys, e] => (D.nd .tup ys).key.bind fun j => if j.depth ≤ 8 ∧ ks.length < sizeLine then some (.dn o (putD ks ds j e).1, (putD ks ds j e).2, .at .non) else none
  | _, _ => none
theorem ent_ix {es : List (NestedKey × Addr × V)} {k : NestedKey} : (entAt es k).isSome = (ixK (es.map (·.1)) k).isSome := by
  induction es with
  | nil => rfl
  | cons e es ih =>
    unfold entAt at ih ⊢
    rw [List.find?_cons, List.map_cons, ixK]
    by_cases q : e.1 = k
    · rw [if_pos q, decide_eq_true q]; rfl
    · rw [Option.isSome_map] at ih
      rw [if_neg q, decide_eq_false q, Option.isSome_map, Option.isSome_map]
      exact ih
theorem lm_setN {m : M} : LM m (rSt (rPutN m.P m.w m.K)) uSetN := by
  intro F H k a vs ws ds es A1 B1 ex k' ds' res Q sm hk hO r1 r2 hu q
  unfold uSetN at hu
  split at hu
  · rename_i o ks ys e
    obtain ⟨j, hj, hu⟩ := Option.bind_eq_some_iff.mp hu
    split at hu
    · rename_i hz
      obtain ⟨rfl, ents, h1, h2, h3, h4, h5, h6, h7⟩ := hO
      obtain ⟨x, v, C1, C2, rfl, hx, hy, rfl⟩ := reps2' r2
      have kr := hx.key hj
      obtain ⟨b, rfl⟩ := key_ref hx
      cases hu
      subst h1
      subst h2
      have hle : ents.length < sizeLine := by have := hz.2; rw [List.length_map] at this; exact this
      refine ⟨a, b, ents, j, rfl, rfl, ⟨h3, fun z hz' => ⟨KRep.mono sm (h4 z hz').1, (h4 z hz').2⟩, h5, ⟨b, rfl⟩, KRep.mono sm kr, hz.1, by omega⟩, hle, fun ob => ?_⟩
      have hst := ent_ix (es := ents) (k := j)
      unfold putD at q
      split at q
      · rename_i n hn
        obtain ⟨A', C, r', p⟩ := Reps.setAt hy (n := n) r1
        rw [hn] at hst
        have e1 : (stE ents j b v).map (·.1) = ents.map (·.1) := by
          unfold stE
          rw [hst, if_pos (Option.isSome_some (a := n)), List.map_map]
          refine List.map_congr_left fun z _ => ?_
          show (if z.1 = j then (z.1, z.2.1, v) else z).1 = z.1
          split <;> rfl
        have e2 : (stE ents j b v).map (·.2.2) = (ents.map (·.2.2)).set n v := by
          unfold stE
          rw [hst, if_pos (Option.isSome_some (a := n))]
          refine map_upd (fun z : NestedKey × Addr × V => z.1) (fun z => z.2.2) _ j v (fun z => ?_) h7 hn
          show (if z.1 = j then (z.1, z.2.1, v) else z).2.2 = _
          split <;> rfl
        refine q (dnO m.P m.w a ob (stE ents j b v)) _ .non A' [] ⟨rfl, stE ents j b v, e1, e2, ⟨_, upd_same⟩, fun z hz' => ?_, h5, h6, h7⟩ r' (.at .non) ⟨C1 ++ C, ?_⟩
        · unfold stE at hz'
          rw [hst, if_pos (Option.isSome_some (a := n))] at hz'
          obtain ⟨z0, hz0, rfl⟩ := List.mem_map.mp hz'
          have := h4 z0 hz0
          split <;> exact this
        · rw [List.append_nil, List.append_assoc]
          exact (swapL A1 C1 C2).trans (List.Perm.append_left C1 p)
      · rename_i hn
        rw [hn] at hst
        have e0 : stE ents j b v = ents ++ [(j, b, v)] := by
          unfold stE
          rw [hst, if_neg (by simp)]
        refine q (dnO m.P m.w a ob (stE ents j b v)) (ents.map (·.2.2) ++ [v]) .non (A1 ++ (C2 ++ [])) [] ⟨rfl, stE ents j b v, by rw [e0, List.map_append]; rfl, by rw [e0, List.map_append]; rfl, ⟨_, upd_same⟩, fun z hz' => ?_, h5, ?_, nodup_snoc h7 hn⟩ (r1.append (.cons hy .nil)) (.at .non) ⟨C1, ?_⟩
        · rw [e0] at hz'
          rcases List.mem_append.mp hz' with h | h
          · exact h4 z h
          · have : z = (j, b, v) := by simpa using h
            subst this
            exact ⟨kr, hz.1⟩
        · rw [List.length_append, List.length_map, List.length_singleton]; omega
        · simp only [List.append_nil]
          exact swapL A1 C1 C2
    · cases hu
  · cases hu

/-! ### any store -/
def uSet : MutF := fun k ds es => match k with
  | .lst _ => uSetL k ds es
  | .dk _ _ => uSetK k ds es
  | .dn _ _ => uSetN k ds es
  | _ => none
def rSetAny (P : Program) (w : World) (K : PySem.W.Frag) : TSet := fun o i v H Q => rSetL o i v H Q ∨ rPutK o i v H Q ∨ rPutN P w K o i v H Q
theorem set_any {X : Cx} (hu : X.A.units + 64 < cLine) : PSet X (rSetAny X.prog X.w X.K) := by
  intro pins s σ H o i v ov iv u Q I ro ri rv h
  rcases h with h | h | h
  · exact set_list pins s σ H o i v ov iv u Q I ro ri rv h
  · exact set_dk hu pins s σ H o i v ov iv u Q I ro ri rv h
  · exact set_dn hu pins s σ H o i v ov iv u Q I ro ri rv h
theorem rSt_mono {t t' : TSet} (h : ∀ o i v H Q, t o i v H Q → t' o i v H Q) {x : V} {ws : List V} {H : Hp} {Q : VK} (r : rSt t x ws H Q) : rSt t' x ws H Q := by
  unfold rSt at r ⊢
  split at r
  · exact h _ _ _ _ _ r
  · trivial
theorem lm_setAny {m : M} : LM m (rSt (rSetAny m.P m.w m.K)) uSet := by
  intro F H k a vs ws ds es A1 B1 ex k' ds' res Q sm hk hO r1 r2 hu q
  unfold uSet at hu
  split at hu
  · exact rSt_mono (fun _ _ _ _ _ h => .inl h) (lm_setL F H _ a vs ws ds es A1 B1 ex k' ds' res Q sm hk hO r1 r2 hu q)
  · exact rSt_mono (fun _ _ _ _ _ h => .inr (.inl h)) (lm_setK F H _ a vs ws ds es A1 B1 ex k' ds' res Q sm hk hO r1 r2 hu q)
  · exact rSt_mono (fun _ _ _ _ _ h => .inr (.inr h)) (lm_setN F H _ a vs ws ds es A1 B1 ex k' ds' res Q sm hk hO r1 r2 hu q)
  · cases hu
section
variable {X : Cx} {W : WX} {pos : Pos} {p1 p2 p3 : Bool} {o e : Expr} {f : EF} {apos cpos : Pos} {i : Nat} {p : List Stp}
theorem zg_set {ix : Expr} {kp : List Nat} (hu : X.A.units + 64 < cLine) (ho : PE X o (tPl i p)) (hi : ZE X W p2 ix f) (hp : p = [] ∨ p2 = true)
    (ha : ∀ v, assign (.Subscript o ix pos) X.env v = (do
      let ov ← holding [v] (eval o X.env)
      let iv ← holding [v, ov] (eval ix X.env)
      standAt pos
      holding [v, ov, iv] (setItem ov iv v)
      release [v, ov, iv] []) := by intro _; rfl) : ZG X kp (.Subscript o ix pos) (tgSub i p f uSet) := zg_sub (set_any hu) lm_setAny ho hi hp ha
end

/-! ### displays -/
/-- {'x': .., ..} -/
def zDisp (ks : List Str) (fs : List EF) : EF := fun ρ => (evL fs ρ).bind fun ds ρ' => .ok (.nd (.dk true (ks.map .inr)) ds) ρ'
def tDs (m : M) (W : WX) : List (Str × Bool × EF) → List (TE × TE)
  | [] => []
  | (x, p, f) :: r => (tC (.str x), tZ m W p f) :: tDs m W r
theorem tPairs_run {m : M} {W : WX} {c : Cz} {σ : Sl} : ∀ {trs : List (Str × Bool × EF)} {ρ : Env} {T : List D} {tv : List V} {H : Hp} {Q : List (V × V) → Hp → Prop}, ZS m c ρ T σ tv H → LPost m W false c T σ tv H (fun vs H' => Q ((trs.map fun t => V.str t.1).zip vs) H') (evL (trs.map fun t => t.2.2) ρ) → tPairs (tDs m W trs) σ H Q
  | [], ρ, T, tv, H, Q, s, h => h [] H s rfl fun _ => Same.refl _
  | (x, p, f) :: trs, ρ, T, tv, H, Q, s, h => by
    show tC (.str x) σ H fun x H1 => tZ m W p f σ H1 fun y H2 => tPairs (tDs m W trs) σ H2 fun ps H3 => Q ((x, y) :: ps) H3
    refine ⟨c, ρ, T, tv, s, ?_⟩
    have h : LPost m W false c T σ tv H (fun vs H' => Q ((((x, p, f) :: trs).map fun t => V.str t.1).zip vs) H') ((f ρ).bind fun d ρ1 => (evL (trs.map fun t => t.2.2) ρ1).bind fun ds ρ2 => .ok (d :: ds) ρ2) := h
    cases e : f ρ with
    | stuck => rw [e] at h; exact h
    | ex z ρ1 => rw [e] at h; exact h
    | ok d ρ1 =>
      rw [e] at h
      intro v H1 s1 _
      refine tPairs_run s1 ?_
      have h : LPost m W false c T σ tv H (fun vs H' => Q ((((x, p, f) :: trs).map fun t => V.str t.1).zip vs) H') ((evL (trs.map fun t => t.2.2) ρ1).bind fun ds ρ2 => .ok (d :: ds) ρ2) := h
      cases e2 : evL (trs.map fun t => t.2.2) ρ1 with
      | stuck => rw [e2] at h; exact h
      | ex z ρ2 =>
        rw [e2] at h
        exact fun cls dx H' q s' => h cls dx H' q s'.pop
      | ok ds ρ2 =>
        rw [e2] at h
        intro vs H2 s2 hl _
        refine h (v :: vs) H2 (ZS.rot s2 hl) (by simp [hl]) fun z => nomatch z
theorem mergeK_new : ∀ {kvs acc : List (Key × V)}, ((acc ++ kvs).map (·.1)).Nodup → mergeK acc kvs = acc ++ kvs
  | [], acc, _ => by rw [List.append_nil]; rfl
  | p :: kvs, acc, nd => by
    have e : putK acc p.1 p.2 = acc ++ [p] := by
      unfold putK
      rw [if_neg]
      rw [ixK_any]
      cases q : ixK (acc.map (·.1)) p.1 with
      | none => simp
      | some n =>
        exfalso
        have hm := List.mem_of_getElem? (ixK_mem q)
        rw [List.map_append, List.nodup_append] at nd
        exact nd.2.2 p.1 hm p.1 (by simp) rfl
    show mergeK (putK acc p.1 p.2) kvs = _
    rw [e, mergeK_new (acc := acc ++ [p]) (by rw [List.append_assoc]; exact nd), List.append_assoc]
    rfl
theorem disp_zip : ∀ {ks : List Str} {vs : List V}, ((ks.map V.str).zip vs) = ((ks.map (fun x => (Sum.inr x : Key))).zip vs).map fun kv => (kV kv.1, kv.2)
  | [], _ => rfl
  | _ :: _, [] => rfl
  | k :: ks, v :: vs => by
    rw [List.map_cons, List.map_cons, List.zip_cons_cons, List.zip_cons_cons, List.map_cons, disp_zip (ks := ks)]
    rfl
theorem rep_own {m : M} {F H : Hp} {v : V} {k : Kd} {xs : List D} {A : List Addr} (r : Rep m F H v (.nd k xs) A) (h : k.own = true) : ∃ a vs ex B, v = .ref a ∧ A = a :: (ex ++ B) ∧ ObjO m F H k a vs ex ∧ Reps m F H vs xs B := by
  cases r with
  | fz h1 _ _ _ => rw [h] at h1; cases h1
  | ow h1 h2 h3 => exact ⟨_, _, _, _, rfl, rfl, h2, h3⟩
theorem ZS.fill {m : M} {c : Cz} {ρ : Env} {T : List D} {σ : Sl} {tv : List V} {H : Hp} {ds : List D} {vs : List V} {pl : Addr} {ks : List Key} (s : ZS m c ρ (ds ++ .nd (.dk true []) [] :: T) σ (vs ++ .ref pl :: tv) H) (hl : ds.length = vs.length) (hk : ks.length = vs.length) (nd : ks.Nodup) :
    H pl = some (.dK []) ∧ ZS m c ρ (.nd (.dk true ks) ds :: T) σ (.ref pl :: tv) (upd H pl (.dK (ks.zip vs))) := by
  obtain ⟨F, A, B, s⟩ := s
  obtain ⟨B1, B2, r1, r2, rfl⟩ := Reps.mid hl s.tm
  cases r2 with
  | cons h r2 =>
    rename_i B3 B4
    obtain ⟨a, ws, ex, C1, e1, rfl, q2, q3⟩ := rep_own h rfl
    cases e1
    · obtain ⟨rfl, g1, g2, g3⟩ := q2
      have e0 : ws = [] := q3.nilD
      subst e0
      cases q3
      refine ⟨g3, ?_⟩
      have P : (A ++ (B1 ++ (pl :: ([] ++ []) ++ B4))).Perm (pl :: (A ++ (B1 ++ B4))) := by
        have : (A ++ (B1 ++ (pl :: ([] ++ []) ++ B4))) = (A ++ B1) ++ pl :: B4 := by simp [List.append_assoc]
        rw [this, ← List.append_assoc]
        exact List.perm_middle
      have nd1 := P.nodup_iff.mp s.nd
      rw [List.nodup_cons] at nd1
      obtain ⟨na, nd1⟩ := nd1
      have Fa : F pl = none := s.nf pl (P.mem_iff.mpr List.mem_cons_self)
      have hpl : pl ∈ A ++ (B1 ++ (pl :: ([] ++ []) ++ B4)) := P.mem_iff.mpr List.mem_cons_self
      have keepB : ∀ b ∈ A ++ (B1 ++ B4), upd H pl (.dK (ks.zip vs)) b = H b := fun b hb => upd_ne fun z => na (z ▸ hb)
      have PP : (A ++ (pl :: ([] ++ B1) ++ B4)).Perm (A ++ (B1 ++ (pl :: ([] ++ []) ++ B4))) := by
        refine List.Perm.append_left A ?_
        show (pl :: (B1 ++ B4)).Perm (B1 ++ (pl :: B4))
        exact List.perm_middle.symm
      refine ⟨F, A, pl :: ([] ++ B1) ++ B4, fun b o hb => ?_, s.sl.mono (Same.refl _) fun b hb => keepB b (List.mem_append_left _ hb), .cons (.ow rfl ⟨rfl, hk, nd, upd_same⟩ (r1.mono (Same.refl _) fun b hb => keepB b (List.mem_append_right _ (List.mem_append_left _ hb)))) (r2.mono (Same.refl _) fun b hb => keepB b (List.mem_append_right _ (List.mem_append_right _ hb))),
        PP.nodup_iff.mpr s.nd, fun b hb => s.nf b (PP.mem_iff.mp hb), s.fin, s.fnw, fun b hb => s.own b (PP.mem_iff.mp hb), fun b o h1 h2 => ?_, fun b hb => ?_, s.par⟩
      · have ne : b ≠ pl := fun z => by rw [z, Fa] at hb; cases hb
        rw [upd_ne ne]; exact s.sub _ _ hb
      · have ne : b ≠ pl := fun z => by
          subst z
          rcases s.own b hpl with q | q
          · exact h2 q
          · rw [q] at h1; cases h1
        rw [upd_ne ne]
        exact s.keep b o h1 h2
      · have ne : b ≠ pl := fun z => by
          subst z
          rw [upd_same] at hb; cases hb
        rw [upd_ne ne] at hb
        exact s.thr b hb
section
variable {X : Cx} {W : WX} {pos : Pos}
theorem zp_nil : PPs X pos [] [] (tDs (mOf X) W []) := pps_nil
theorem zp_cons {x : Str} {j : Nat} {q : Pos} {v : Expr} {ks : List (Option Expr)} {vs : List Expr} {p : Bool} {f : EF} {trs : List (Str × Bool × EF)} (hv : ZE X W p v f) (hr : PPs X pos ks vs (tDs (mOf X) W trs)) : PPs X pos (some (.Constant (.str x) j q) :: ks) (v :: vs) (tDs (mOf X) W ((x, p, f) :: trs)) := pps_cons pe_str hv hr
theorem ze_disp {keys : List (Option Expr)} {values : List Expr} {trs : List (Str × Bool × EF)} {ks : List Str} {fs : List EF} (h : PPs X pos keys values (tDs (mOf X) W trs)) (e1 : trs.map (fun t => t.1) = ks) (e2 : trs.map (fun t => t.2.2) = fs) (nd : (ks.map (fun x => (Sum.inr x : Key))).Nodup) (h16 : ks.length ≤ 15) (hall : keys.all (·.isSome) = true) (hl : keys.length = values.length) (h0 : keys ≠ [])
    (h15 : keys.length ≤ 15) : ZE X W false (.Dict keys values pos) (zDisp ks fs) :=
  peImp (pe_disp h hall hl h0 h15) fun σ H Q ⟨c, ρ, T, tv, s, q⟩ => by
    intro pl hp
    subst e1
    subst e2
    have s1 : ZS (mOf X) c ρ (.nd (.dk true []) [] :: T) σ (.ref pl :: tv) (upd H pl (.dK [])) := ZS.newO (ds := []) (vs := []) s rfl hp rfl fun F => ⟨rfl, rfl, List.nodup_nil, upd_same⟩
    refine tPairs_run s1 ?_
    unfold zDisp at q
    cases e : evL (trs.map fun t => t.2.2) ρ with
    | stuck => rw [e] at q; exact q
    | ex z ρ1 =>
      rw [e] at q
      exact fun cls dx H' z s' => q cls dx H' z s'.pop
    | ok ds ρ1 =>
      rw [e] at q
      intro vs H1 s2 hlv _
      have hlen : ∀ {fs : List EF} {ρ ρ' : Env} {ds : List D}, evL fs ρ = .ok ds ρ' → ds.length = fs.length := by
        intro fs
        induction fs with
        | nil => intro ρ ρ' ds h; rw [evL] at h; cases h; rfl
        | cons f fs ih =>
          intro ρ ρ' ds h
          rw [evL] at h
          cases e1 : f ρ with
          | stuck => rw [e1] at h; cases h
          | ex x ρ1 => rw [e1] at h; cases h
          | ok d ρ1 =>
            rw [e1] at h
            have h : ((evL fs ρ1).bind fun ds ρ2 => R.ok (d :: ds) ρ2) = .ok ds ρ' := h
            cases e2 : evL fs ρ1 with
            | stuck => rw [e2] at h; cases h
            | ex x ρ2 => rw [e2] at h; cases h
            | ok ds2 ρ2 =>
              rw [e2] at h
              cases h
              rw [List.length_cons, List.length_cons, ih e2]
      have hn := hlen e
      rw [List.length_map] at hn
      have hk : ((trs.map (fun t => t.1)).map (fun x => (Sum.inr x : Key))).length = vs.length := by rw [List.length_map, List.length_map, ← hlv, hn]
      obtain ⟨g1, g2⟩ := ZS.fill s2 hlv hk nd
      refine ⟨g1, ((trs.map (fun t => t.1)).map (fun x => (Sum.inr x : Key))).zip vs, ?_, ?_, ?_⟩
      · show ((trs.map fun t => V.str t.1).zip vs) = _
        have : (trs.map fun t => V.str t.1) = (trs.map (fun t => t.1)).map V.str := by rw [List.map_map]; rfl
        rw [this, disp_zip]
      · rw [List.length_zip, hk, Nat.min_self, ← hlv, hn]
        rw [List.length_map] at h16; exact h16
      · rw [mergeK_new (by rw [List.nil_append, fst_zip hk]; exact nd), List.nil_append]
        exact q _ _ g2 fun z => nomatch z
end
end Z

set_option Elab.async false
set_option linter.all false
set_option maxRecDepth 100000
set_option maxHeartbeats 4000000
/-! Z11: slices, isinstance, built-ins that only read. -/
namespace Z
open PySem PySem.Spec PyProof.Rows L2

/-! ### slices -/
def cutD (xs : List D) (lo hi : Option Int) : List D := (xs.drop (HT.sIx xs.length 0 lo)).take (HT.sIx xs.length xs.length hi - HT.sIx xs.length 0 lo)
theorem Reps.drop {m : M} {F H : Hp} : ∀ {vs : List V} {ds : List D} {A : List Addr} (n : Nat), Reps m F H vs ds A → ∃ B, Reps m F H (vs.drop n) (ds.drop n) B
  | _, _, A, 0, r => ⟨A, by simpa using r⟩
  | _, _, _, n + 1, .nil => ⟨[], .nil⟩
  | _, _, _, n + 1, .cons h r => by simpa using Reps.drop n r
theorem Reps.take {m : M} {F H : Hp} : ∀ {vs : List V} {ds : List D} {A : List Addr} (n : Nat), Reps m F H vs ds A → ∃ B, Reps m F H (vs.take n) (ds.take n) B
  | _, _, _, 0, r => ⟨[], by simpa using Reps.nil⟩
  | _, _, _, n + 1, .nil => ⟨[], .nil⟩
  | _, _, _, n + 1, .cons h r => by
    obtain ⟨B, r2⟩ := Reps.take n r
    exact ⟨_, by simpa using Reps.cons h r2⟩
theorem Reps.cutD {m : M} {F H : Hp} {vs : List V} {ds : List D} {A : List Addr} (r : Reps m F H vs ds A) (lo hi : Option Int) : ∃ B, Reps m F H (cutV vs lo hi) (Z.cutD ds lo hi) B := by
  unfold cutV Z.cutD
  rw [r.length]
  obtain ⟨B, r1⟩ := r.drop (HT.sIx ds.length 0 lo)
  exact r1.take _
theorem pureL_mem {xs ys : List D} (h : pureL xs = true) (s : ∀ x ∈ ys, x ∈ xs) : pureL ys = true := by
  rw [pureL_all, List.all_eq_true] at h ⊢
  exact fun x hx => h x (s x hx)
theorem pure_cutD {xs : List D} {lo hi : Option Int} (h : pureL xs = true) : pureL (cutD xs lo hi) = true := pureL_mem h fun x hx => by
  unfold cutD at hx
  exact List.mem_of_mem_drop (List.mem_of_mem_take hx)
def gSl (lo hi : Option Int) : D → Option D
  | .nd (.lst _) xs => if pureL xs = true then some (.nd (.lst true) (cutD xs lo hi)) else none
  | .nd .scr xs => if pureL xs = true then some (.nd (.lst true) (cutD xs lo hi)) else none
  | .nd .tup xs => if pureL xs = true then some (.nd .tup (cutD xs lo hi)) else none
  | .at (.str z) => if z.length ≤ sizeLine then some (.at (.str (cutS z lo hi))) else none
  | _ => none
def rSlAll (K : PySem.W.Frag) : V → Option Int → Option Int → Hp → VK → Prop := fun x lo hi H Q => rSlL K x lo hi H Q ∨ rSlA K x lo hi H Q ∨ rSlS x lo hi H Q
theorem sl_all {X : Cx} : SlR X (rSlAll X.K) := sl_list.or (sl_tupA.or sl_str)
theorem cut_whole {xs : List D} {lo hi : Option Int} (h : HT.sIx xs.length 0 lo = 0 ∧ HT.sIx xs.length xs.length hi = xs.length) : cutD xs lo hi = xs := by
  unfold cutD
  rw [h.1, h.2]
  simp
theorem lr_sl {m : M} {lo hi : Option Int} {F H : Hp} {v : V} {x d : D} {A : List Addr} {Q : VK} (sm : Same F H) (r : Rep m F H v x A) (hg : gSl lo hi x = some d) (y : Yl m F H d Q) : rSlAll m.K v lo hi H Q := by
  unfold gSl at hg
  split at hg
  · split at hg
    · rename_i hz
      cases hg
      obtain ⟨a, vs, B, rfl, e, q⟩ := rep_lst r sm
      obtain ⟨B2, r2⟩ := q.cutD lo hi
      exact .inl ⟨a, vs, rfl, SqL.of e, y.newL sm r2 (pure_cutD hz)⟩
    · cases hg
  · split at hg
    · rename_i hz
      cases hg
      obtain ⟨a, vs, B, rfl, e, q⟩ := rep_scr r
      obtain ⟨B2, r2⟩ := q.cutD lo hi
      exact .inl ⟨a, vs, rfl, Same.seq sm e, y.newL sm r2 (pure_cutD hz)⟩
    · cases hg
  · split at hg
    · rename_i xs hz
      cases hg
      obtain ⟨a, vs, B, rfl, e, q⟩ := rep_tup r
      obtain ⟨B2, r2⟩ := q.cutD lo hi
      refine .inr (.inl ⟨a, vs, rfl, Same.sqT sm e, fun hw => ?_, fun _ => y.newTup sm r2 (pure_cutD hz)⟩)
      rw [q.length] at hw
      rw [cut_whole hw] at y
      exact y.pureV sm r (by rw [D.pure, hz]; rfl)
    · cases hg
  · split at hg
    · rename_i hz
      cases hg
      have e := rep_at r
      exact .inr (.inr ⟨_, e, hz, y.atom sm⟩)
    · cases hg
  · cases hg
def evP : Option EF → Env → R (Option Int)
  | none, ρ => .ok none ρ
  | some f, ρ => (evI f ρ).bind fun i ρ' => .ok (some i) ρ'
def tP (m : M) (W : WX) : Option EF → TO
  | none => tNoPart
  | some f => tPart (tZ m W true f)
theorem tP_run {m : M} {W : WX} {c : Cz} {ρ : Env} {T : List D} {σ : Sl} {tv : List V} {H : Hp} {o : Option EF} {Q : Option Int → Hp → Prop} (s : ZS m c ρ T σ tv H) (h : GPost m W true c T σ tv H Q (evP o ρ)) : tP m W o σ H Q := by
  cases o with
  | none => exact h H s fun _ => Same.refl _
  | some f =>
    refine tZ_int s ?_
    have h : GPost m W true c T σ tv H Q ((evI f ρ).bind fun i ρ' => .ok (some i) ρ') := h
    cases e : evI f ρ with
    | stuck => rw [e] at h; exact h
    | ex x ρ1 => rw [e] at h; exact h
    | ok i ρ1 => rw [e] at h; exact fun H' s' k => ⟨i, rfl, h H' s' k⟩
abbrev ZP (X : Cx) (W : WX) (e : Option Expr) (o : Option EF) : Prop := PO X e (tP (mOf X) W o)
def one1 (g : D → Option D) : List D → Option D
  | [d] => g d
  | _ => none
def zSl (o : Opd) (lo hi : Option EF) : EF := fun ρ => (evO [o] ρ).bind fun r ρ0 => (evP lo ρ0).bind fun l ρ1 => (evP hi ρ1).bind fun h ρ2 => match (fillO r ρ2).bind (one1 (gSl l h)) with
  | some d => .ok d ρ2
  | none => .stuck
theorem ZPost.bind' {α : Type} {m : M} {W : WX} {c : Cz} {T : List D} {σ : Sl} {tv : List V} {H : Hp} {Q : VK} {r : R α} {k : α → EF} (h : ZPost m W false c T σ tv H Q (r.bind k)) :
    GPost m W true c T σ tv H (fun a H' => ∃ ρ', ZS m c ρ' T σ tv H' ∧ ZPost m W false c T σ tv H' Q (k a ρ')) r := (ZPost.bind h).weak
section
variable {X : Cx} {W : WX} {pos p2 : Pos} {p : Bool} {e : Expr} {f : EF} {lo hi : Option Expr} {l h : Option EF}
theorem zp_none : ZP X W none none := po_none
theorem zp_some (he : ZE X W true e f) : ZP X W (some e) (some f) := po_some he
theorem OPost.of {m : M} {W : WX} {p : Bool} {c : Cz} {T : List D} {σ : Sl} {tv : List V} {H : Hp} {Q : VK} {r : R (List (D ⊕ Nat))} {k : List (D ⊕ Nat) → EF} {Q' : List V → Hp → Prop} (h : ZPost m W false c T σ tv H Q (r.bind k))
    (f : ∀ a ρ' vs tvs H', Pick σ vs a tvs → ZS m c ρ' (valsO a ++ T) σ (tvs ++ tv) H' → ZPost m W false c T σ tv H' Q (k a ρ') → Q' vs H') : OPost m W p c T σ tv H Q' r := by
  cases r with
  | stuck => exact h
  | ex x ρ => exact h
  | ok a ρ =>
    intro vs tvs H' pk s' _
    refine f a ρ vs tvs H' pk s' ?_
    have h : ZPost m W false c T σ tv H Q (k a ρ) := h
    cases e : k a ρ with
    | stuck => rw [e] at h; exact h
    | ex x ρ1 => rw [e] at h; exact h
    | ok b ρ1 => rw [e] at h; exact fun v H1 s1 z => h v H1 s1 fun z => nomatch z
/-- the results that lie over others -/
theorem ZPost.over {m : M} {W : WX} {c : Cz} {ds T : List D} {σ : Sl} {vs tv : List V} {H : Hp} {Q : VK} {r : R D} (hl : ds.length = vs.length) (h : ZPost m W false c T σ tv H Q r) : ZPost m W false c (ds ++ T) σ (vs ++ tv) H Q r := by
  cases r with
  | stuck => exact h
  | ex x ρ => exact fun cls dx H' z s => h cls dx H' z (ZS.cutT s hl)
  | ok d ρ => exact fun v H' s _ => h v H' (s.under hl) fun z => nomatch z
def on1 (k : V → Hp → Prop) : List V → Hp → Prop
  | [x], H => k x H
  | _, _ => True
theorem ze_sl {o : Opd} (he : ZO X W p e o) (hl : ZP X W lo l) (hu : ZP X W hi h) : ZE X W false (.Subscript e (.Slice lo hi none p2) pos) (zSl o l h) :=
  peImp (pe_slice sl_all he hl hu) fun σ H Q ⟨c, ρ, T, tv, s, q⟩ => by
    unfold zSl at q
    show tOs (mOf X) W [(p, o)] σ H (on1 fun x H1 => tP (mOf X) W l σ H1 fun l H2 => tP (mOf X) W h σ H2 fun u H3 => rSlAll X.K x l u H3 Q)
    refine tOs_run s (OPost.of q fun a ρ0 vs tvs H1 pk s1 q1 => ?_)
    match vs, pk, s1 with
    | [], _, _ => trivial
    | _ :: _ :: _, _, _ => trivial
    | [x], pk, s1 =>
      refine tP_run s1 ((ZPost.bind' (ZPost.over pk.length q1)).mono fun lv H2 ⟨ρ1, s2, q2⟩ => ?_)
      refine tP_run s2 ((ZPost.bind' q2).mono fun hv H3 ⟨ρ2, s3, q3⟩ => ?_)
      cases e2 : fillO a ρ2 with
      | none => rw [e2] at q3; exact q3.elim
      | some ds =>
        rw [e2, Option.bind_some] at q3
        cases e3 : one1 (gSl lv hv) ds with
        | none => rw [e3] at q3; exact q3.elim
        | some d =>
          rw [e3] at q3
          obtain ⟨F, A, B, s4⟩ := s3
          obtain ⟨B1, B2, r1, r2, rfl⟩ := Reps.mid pk.length s4.tm
          obtain ⟨A', r3⟩ := pick_reps s4.sl pk r1 e2
          unfold one1 at e3
          split at e3
          · rename_i d0
            cases r3 with
            | cons h1 _ => exact lr_sl s4.sub h1 e3 (s4.yield fun v H' s' k' => q3 v H' s' fun z => nomatch z)
          · cases e3
end

/-! ### [::-1] of a list; of a tuple -/
theorem Reps.reverse {m : M} {F H : Hp} : ∀ {vs : List V} {ds : List D} {A : List Addr}, Reps m F H vs ds A → ∃ B, Reps m F H vs.reverse ds.reverse B
  | _, _, _, .nil => ⟨[], .nil⟩
  | _, _, _, .cons h r => by
    obtain ⟨B, r2⟩ := Reps.reverse r
    rw [List.reverse_cons, List.reverse_cons]
    exact ⟨_, r2.append (.cons h .nil)⟩
section
variable {X : Cx} {W : WX} {p1 p2 p3 pos : Pos} {p : Bool} {e : Expr} {o : Opd} {k : Nat}
end

/-! ### built-ins that read -/
def allSome {α β : Type} (f : α → Option β) : List α → Option (List β)
  | [] => some []
  | x :: xs => (f x).bind fun y => (allSome f xs).map (y :: ·)
theorem allBl {m : M} {F H : Hp} : ∀ {vs : List V} {ds : List D} {A : List Addr} {ns : List Bool}, Reps m F H vs ds A → allSome asBl ds = some ns → vs = ns.map V.bl
  | _, _, _, _, .nil, h => by rw [allSome] at h; cases h; rfl
  | _, _, _, _, .cons h1 r, h => by
    rw [allSome] at h
    obtain ⟨i, e1, h⟩ := Option.bind_eq_some_iff.mp h
    obtain ⟨ns, e2, rfl⟩ := Option.map_eq_some_iff.mp h
    have := asBl_of e1
    subst this
    rw [List.map_cons, ← allBl r e2, rep_at h1]; rfl
/-- a list's items -/
def lstI : D → Option (List D)
  | .nd (.lst _) xs => some xs
  | .nd .scr xs => some xs
  | _ => none
theorem rep_lstI {m : M} {F H : Hp} {v : V} {d : D} {xs : List D} {A : List Addr} (r : Rep m F H v d A) (s : Same F H) (h : lstI d = some xs) : ∃ a vs B, v = .ref a ∧ SqL m.K H a vs ∧ Reps m F H vs xs B := by
  unfold lstI at h
  split at h
  · cases h
    obtain ⟨a, vs, B, rfl, e, q⟩ := rep_lst r s
    exact ⟨a, vs, B, rfl, SqL.of e, q⟩
  · cases h
    obtain ⟨a, vs, B, rfl, e, q⟩ := rep_scr r
    exact ⟨a, vs, B, rfl, Same.seq s e, q⟩
  · cases h
def gAny : D → Option D := fun d => (lstI d).bind fun xs => (allSome asBl xs).map fun ns => .at (.bl (ns.any id))
def gAll : D → Option D := fun d => (lstI d).bind fun xs => (allSome asBl xs).map fun ns => .at (.bl (ns.all id))
def gInt1 : D → Option D
  | .at (.int i) => some (.at (.int i))
  | .at (.bl k) => some (.at (.int (if k then 1 else 0)))
  | _ => none
def gListOf : D → Option D
  | .nd .tup xs => if pureL xs = true then some (.nd (.lst true) xs) else none
  | d => (lstI d).bind fun xs => if pureL xs = true then some (.nd (.lst true) xs) else none
def gTupOf : D → Option D
  | .nd .tup xs => if pureL xs = true then some (.nd .tup xs) else none
  | d => (lstI d).bind fun xs => if pureL xs = true then some (.nd .tup xs) else none
def gDivmod : List D → Option D
  | [.at (.int i), .at (.int j)] => if 0 < j ∧ j < 1073741824 then some (.nd .tup [.at (.int (i / j)), .at (.int (i % j))]) else none
  | _ => none
def gMin2 : List D → Option D
  | [.at (.int i), .at (.int j)] => some (.at (.int (if j < i then j else i)))
  | _ => none
def gMax2 : List D → Option D
  | [.at (.int i), .at (.int j)] => some (.at (.int (if j > i then j else i)))
  | _ => none
section
variable {m : M}
theorem one1_of {g : D → Option D} {ds : List D} {d : D} (h : one1 g ds = some d) : ∃ x, ds = [x] ∧ g x = some d := by
  unfold one1 at h
  split at h
  · exact ⟨_, rfl, h⟩
  · cases h
theorem lr_any : LR m (rAny m.K) (one1 gAny) := by
  intro F H vs ds A d Q sm rs hg y
  replace hg := one1_of hg
  obtain ⟨x, rfl, hg⟩ := hg
  obtain ⟨v, rfl, A1, r1⟩ := reps1 rs
  obtain ⟨xs, h1, h⟩ := Option.bind_eq_some_iff.mp hg
  obtain ⟨ns, h2, rfl⟩ := Option.map_eq_some_iff.mp h
  obtain ⟨a, vs, B, rfl, e, q⟩ := rep_lstI r1 sm h1
  have := allBl q h2
  subst this
  exact ⟨a, ns, rfl, e, y.atom sm⟩
theorem lr_all : LR m (rAll m.K) (one1 gAll) := by
  intro F H vs ds A d Q sm rs hg y
  replace hg := one1_of hg
  obtain ⟨x, rfl, hg⟩ := hg
  obtain ⟨v, rfl, A1, r1⟩ := reps1 rs
  obtain ⟨xs, h1, h⟩ := Option.bind_eq_some_iff.mp hg
  obtain ⟨ns, h2, rfl⟩ := Option.map_eq_some_iff.mp h
  obtain ⟨a, vs, B, rfl, e, q⟩ := rep_lstI r1 sm h1
  have := allBl q h2
  subst this
  exact ⟨a, ns, rfl, e, y.atom sm⟩
abbrev rInt1 : List V → Hp → VK → Prop := fun xs H Q => (∃ i, xs = [.int i] ∧ Q (.int i) H) ∨ ∃ k, xs = [.bl k] ∧ Q (.int (if k then 1 else 0)) H
theorem lr_int1 : LR m rInt1 (one1 gInt1) := by
  intro F H vs ds A d Q sm rs hg y
  replace hg := one1_of hg
  obtain ⟨x, rfl, hg⟩ := hg
  obtain ⟨v, rfl, A1, r1⟩ := reps1 rs
  unfold gInt1 at hg
  split at hg
  · cases hg
    exact .inl ⟨_, by rw [rep_at r1]; rfl, y.atom sm⟩
  · cases hg
    exact .inr ⟨_, by rw [rep_at r1]; rfl, y.atom sm⟩
  · cases hg
abbrev rListOf (K : PySem.W.Frag) : List V → Hp → VK → Prop := fun xs H Q => ∃ p ys, xs = [.ref p] ∧ (SqL K H p ys ∨ SqT K H p ys) ∧ ∀ l, H l = none → Q (.ref l) (upd H l (.lst ys))
theorem lr_listOf : LR m (rListOf m.K) (one1 gListOf) := by
  intro F H vs ds A d Q sm rs hg y
  replace hg := one1_of hg
  obtain ⟨x, rfl, hg⟩ := hg
  obtain ⟨v, rfl, A1, r1⟩ := reps1 rs
  unfold gListOf at hg
  split at hg
  · split at hg
    · rename_i hz
      cases hg
      obtain ⟨a, vs, B, rfl, e, q⟩ := rep_tup r1
      exact ⟨a, vs, rfl, .inr (Same.sqT sm e), y.newL sm q hz⟩
    · cases hg
  · obtain ⟨xs, h1, h⟩ := Option.bind_eq_some_iff.mp hg
    split at h
    · rename_i hz
      cases h
      obtain ⟨a, vs, B, rfl, e, q⟩ := rep_lstI r1 sm h1
      exact ⟨a, vs, rfl, .inl e, y.newL sm q hz⟩
    · cases h
abbrev rTupOf (K : PySem.W.Frag) : List V → Hp → VK → Prop := fun xs H Q => ∃ p ys, xs = [.ref p] ∧ ((SqL K H p ys ∧ ∀ l, H l = none → Q (.ref l) (upd H l (.tup ys))) ∨ (SqT K H p ys ∧ Q (.ref p) H))
theorem lr_tupOf : LR m (rTupOf m.K) (one1 gTupOf) := by
  intro F H vs ds A d Q sm rs hg y
  replace hg := one1_of hg
  obtain ⟨x, rfl, hg⟩ := hg
  obtain ⟨v, rfl, A1, r1⟩ := reps1 rs
  unfold gTupOf at hg
  split at hg
  · split at hg
    · rename_i hz
      cases hg
      have r0 := r1
      obtain ⟨a, vs, B, rfl, e, q⟩ := rep_tup r1
      exact ⟨a, vs, rfl, .inr ⟨Same.sqT sm e, y.pureV sm r0 (by rw [D.pure, hz]; rfl)⟩⟩
    · cases hg
  · obtain ⟨xs, h1, h⟩ := Option.bind_eq_some_iff.mp hg
    split at h
    · rename_i hz
      cases h
      obtain ⟨a, vs, B, rfl, e, q⟩ := rep_lstI r1 sm h1
      exact ⟨a, vs, rfl, .inl ⟨e, y.newTup sm q hz⟩⟩
    · cases h
abbrev rDivmod : List V → Hp → VK → Prop := fun xs H Q => ∃ i j, xs = [.int i, .int j] ∧ CDiv i j ∧ ∀ p, H p = none → Q (.ref p) (upd H p (.tup [.int (i / j), .int (i % j)]))
theorem lr_divmod : LR m rDivmod gDivmod := by
  intro F H vs ds A d Q sm rs hg y
  unfold gDivmod at hg
  split at hg
  · split at hg
    · rename_i i j hz
      cases hg
      obtain ⟨x1, y1, rfl, ⟨_, r1⟩, _, r2⟩ := reps2 rs
      refine ⟨i, j, by rw [rep_at r1, rep_at r2]; rfl, hz, ?_⟩
      exact y.newTup sm (Reps.cons (A := []) (.at (.int (i / j))) (.cons (A := []) (.at (.int (i % j))) .nil)) rfl
    · cases hg
  · cases hg
abbrev rMin2 : List V → Hp → VK → Prop := fun xs H Q => ∃ i j, xs = [.int i, .int j] ∧ Q (.int (if j < i then j else i)) H
theorem lr_min2 : LR m rMin2 gMin2 := by
  intro F H vs ds A d Q sm rs hg y
  unfold gMin2 at hg
  split at hg
  · cases hg
    obtain ⟨x1, y1, rfl, ⟨_, r1⟩, _, r2⟩ := reps2 rs
    exact ⟨_, _, by rw [rep_at r1, rep_at r2]; rfl, y.atom sm⟩
  · cases hg
end

/-! ### isinstance -/
def D.ty : D → Option String
  | .at .non => some "NoneType"
  | .at (.bl _) => some "bool"
  | .at (.int _) => some "int"
  | .at (.str _) => some "str"
  | .nd .tup _ => some "tuple"
  | .nd (.lst _) _ => some "list"
  | .nd (.dk _ _) _ => some "dict"
  | .nd (.dn _ _) _ => some "dict"
  | _ => none
/-- what isinstance says of two built-in types -/
def gIsi (T : String) : D → Option D := fun d => d.ty.bind fun t => (kitB t T).map fun b => .at (.bl b)
def rIsiA (P : Program) (w : World) (K : PySem.W.Frag) : List V → Hp → VK → Prop := fun xs H Q => rIsi K xs H Q ∨ ∃ a es T b, xs = [.ref a, .ty T] ∧ DnI P w H a es ∧ kitB "dict" T = some b ∧ Q (.bl b) H
theorem call_isiA {X : Cx} : CallR X (.builtin "isinstance") (rIsiA X.prog X.w X.K) := by
  refine call_isi.or ?_
  intro pins s σ H xs us Q I r h
  obtain ⟨a, es, T, b, rfl, e, hb, q⟩ := h
  obtain ⟨u1, u2, rfl, r1, r2⟩ := vals2 r
  cases (show u1 = Value.ref a from r1)
  cases (show u2 = Value.type T from r2)
  obtain ⟨o, e⟩ := e
  obtain ⟨⟨arr, ep, xs, h1, h2, h3, h4, h5, h6⟩, _⟩ := (show ObjOk X.prog X.w H s.heap a (dnO X.prog X.w a o es) from I.hok a _ e)
  exact PySem.W.kia_one (K := X.K) PySem.W.kitx_dict I.kIn ⟨o, h1, h2.1⟩ (kit_ty hb) (fun z => nomatch z) fun tk => ⟨.bl b, H, I.tok tk, rfl, q⟩
theorem ty_ok {m : M} {F H : Hp} {v : V} {d : D} {A : List Addr} {t : String} (sm : Same F H) (r : Rep m F H v d A) (h : d.ty = some t) : TyX m.K H v (.type t) ∨ ∃ a es, v = .ref a ∧ t = "dict" ∧ DnI m.P m.w H a es := by
  unfold D.ty at h
  split at h
  · cases h; rw [rep_at r]; exact .inl (.base .non)
  · cases h; rw [rep_at r]; exact .inl (.base (.bl _))
  · cases h; rw [rep_at r]; exact .inl (.base (.int _))
  · cases h; rw [rep_at r]; exact .inl (.base (.str _))
  · cases h
    obtain ⟨a, vs, B, rfl, e, q⟩ := rep_tup r
    rcases Same.sqT sm e with (z | ⟨o, z⟩) | ⟨o, its, n, z1, z2, _⟩
    · exact .inl (.base (.tup z))
    · exact .inl (.fTuple z)
    · exact .inl (.kTuple z1 z2)
  · cases h
    obtain ⟨a, vs, B, rfl, e, q⟩ := rep_lst r sm
    exact .inl (.base (.lst e))
  · cases h
    obtain ⟨a, vs, B, rfl, ⟨_, _, e⟩, q⟩ := rep_dk r sm
    exact .inl (.base (.dK e))
  · cases h
    obtain ⟨a, vs, B, rfl, ⟨es, _, _, e, _⟩, q⟩ := rep_dn r sm
    exact .inr ⟨a, es, rfl, rfl, e⟩
  · cases h
theorem lr_isi {m : M} {T : String} : LR m (fun vs H Q => on1 (fun x H => rIsiA m.P m.w m.K [x, .ty T] H Q) vs H) (one1 (gIsi T)) := by
  intro F H vs ds A d Q sm rs hg y
  replace hg := one1_of hg
  obtain ⟨x, rfl, hg⟩ := hg
  obtain ⟨v, rfl, A1, r1⟩ := reps1 rs
  obtain ⟨t, h1, h⟩ := Option.bind_eq_some_iff.mp hg
  obtain ⟨b, h2, rfl⟩ := Option.map_eq_some_iff.mp h
  rcases ty_ok sm r1 h1 with z | ⟨a, es, rfl, rfl, z⟩
  · exact .inl ⟨v, .ty T, .type t, .type T, b, rfl, .ty T, z, kit_ty h2, y.atom sm⟩
  · exact .inr ⟨a, es, T, b, rfl, z, h2, y.atom sm⟩
section
variable {X : Cx} {W : WX} {pos q1 q2 : Pos} {p p1 p2 : Bool} {a b e : Expr} {es : List Expr} {o o1 o2 : Opd} {T : String} {x : Str}
theorem ze_isi (hg : Gl X "isinstance") (hm : X.mg "isinstance" = none) (he : ZO X W p e o) (hgT : Gl X x) (hmT : X.mg x = none) (hvT : bootBuiltins x = some (.type T)) (hn : x ≠ "__name__" := by decide) (hd : (x == ("__debug__" : Str)) = false := by decide)
    (hs : starEach [e, .Name x q1] X.env = (false, eval e X.env) :: starEach [.Name x q1] X.env := by rfl) (hs2 : starEach [.Name x q1] X.env = (false, eval (.Name x q1) X.env) :: starEach [] X.env := by rfl) (hpl : (backTo pos (starEach [.Name x q1] X.env)).any (·.1) = false := by rfl) :
    ZE X W (p && true) (.Call (.Name "isinstance" q2) [e, .Name x q1] [] pos) (zOps (one1 (gIsi T)) [o]) :=
  peImp (pe_callB (call_isiA (X := X)) hg hm PyProof.Rows.boot_isinstance (pa_cons he (pa_cons (pe_bltn (v := .ty T) hgT hmT hvT rfl hn hd) pa_nil hs2) hs) (by decide) (by decide) hs hpl) fun σ H Q ⟨c, ρ, Tt, tv, s, q⟩ =>
    ops_run (m := mOf X) (W := W) (pos := [(p, o)]) lr_isi s q
/-! ### the calls -/
theorem ze_any (hc : X.calm = true) (hg : Gl X "any") (hm : X.mg "any" = none) (ha : ZO X W p a o) (he : starEach [a] X.env = (false, eval a X.env) :: starEach [] X.env := by rfl) (hpl : (backTo pos (starEach [] X.env)).any (·.1) = false := by rfl) : ZE X W (p && true) (.Call (.Name "any" q1) [a] [] pos) (zOps (one1 gAny) [o]) :=
  ze_callB (ps := [(p, o)]) (cr_any hc) lr_any hg hm PyProof.Rows.boot_any (zos_cons ha zos_nil he) (by decide) (by decide) he hpl
theorem ze_all (hc : X.calm = true) (hg : Gl X "all") (hm : X.mg "all" = none) (ha : ZO X W p a o) (he : starEach [a] X.env = (false, eval a X.env) :: starEach [] X.env := by rfl) (hpl : (backTo pos (starEach [] X.env)).any (·.1) = false := by rfl) : ZE X W (p && true) (.Call (.Name "all" q1) [a] [] pos) (zOps (one1 gAll) [o]) :=
  ze_callB (ps := [(p, o)]) (cr_all hc) lr_all hg hm PyProof.Rows.boot_all (zos_cons ha zos_nil he) (by decide) (by decide) he hpl
theorem ze_int1 (hg : Gl X "int") (hm : X.mg "int" = none) (ha : ZO X W p a o) (he : starEach [a] X.env = (false, eval a X.env) :: starEach [] X.env := by rfl) (hpl : (backTo pos (starEach [] X.env)).any (·.1) = false := by rfl) : ZE X W (p && true) (.Call (.Name "int" q1) [a] [] pos) (zOps (one1 gInt1) [o]) :=
  ze_callTy (ps := [(p, o)]) call_int1 lr_int1 hg hm PyProof.Rows.boot_int (zos_cons ha zos_nil he) (by decide) (by decide) he hpl
theorem ze_listOf (hg : Gl X "list") (hm : X.mg "list" = none) (ha : ZO X W p a o) (he : starEach [a] X.env = (false, eval a X.env) :: starEach [] X.env := by rfl) (hpl : (backTo pos (starEach [] X.env)).any (·.1) = false := by rfl) : ZE X W (p && true) (.Call (.Name "list" q1) [a] [] pos) (zOps (one1 gListOf) [o]) :=
  ze_callTy (ps := [(p, o)]) call_list_of lr_listOf hg hm PyProof.Rows.boot_list (zos_cons ha zos_nil he) (by decide) (by decide) he hpl
theorem ze_tupOf (hg : Gl X "tuple") (hm : X.mg "tuple" = none) (ha : ZO X W p a o) (he : starEach [a] X.env = (false, eval a X.env) :: starEach [] X.env := by rfl) (hpl : (backTo pos (starEach [] X.env)).any (·.1) = false := by rfl) : ZE X W (p && true) (.Call (.Name "tuple" q1) [a] [] pos) (zOps (one1 gTupOf) [o]) :=
  ze_callTy (ps := [(p, o)]) call_tuple_of lr_tupOf hg hm PyProof.Rows.boot_tuple (zos_cons ha zos_nil he) (by decide) (by decide) he hpl
theorem ze_divmod (hg : Gl X "divmod") (hm : X.mg "divmod" = none) (ha : ZO X W p1 a o1) (hb : ZO X W p2 b o2) (he : starEach [a, b] X.env = (false, eval a X.env) :: starEach [b] X.env := by rfl) (he2 : starEach [b] X.env = (false, eval b X.env) :: starEach [] X.env := by rfl) (hpl : (backTo pos (starEach [b] X.env)).any (·.1) = false := by rfl) : ZE X W (p1 && (p2 && true)) (.Call (.Name "divmod" q1) [a, b] [] pos) (zOps gDivmod [o1, o2]) :=
  ze_callB (ps := [(p1, o1), (p2, o2)]) call_divmod lr_divmod hg hm PyProof.Rows.boot_divmod (zos_cons ha (zos_cons hb zos_nil he2) he) (by decide) (by decide) he hpl
theorem ze_min2 (hc : X.calm = true) (hg : Gl X "min") (hm : X.mg "min" = none) (ha : ZO X W p1 a o1) (hb : ZO X W p2 b o2) (he : starEach [a, b] X.env = (false, eval a X.env) :: starEach [b] X.env := by rfl) (he2 : starEach [b] X.env = (false, eval b X.env) :: starEach [] X.env := by rfl) (hpl : (backTo pos (starEach [b] X.env)).any (·.1) = false := by rfl) : ZE X W (p1 && (p2 && true)) (.Call (.Name "min" q1) [a, b] [] pos) (zOps gMin2 [o1, o2]) :=
  ze_callB (ps := [(p1, o1), (p2, o2)]) (call_min2 hc) lr_min2 hg hm PyProof.Rows.boot_min (zos_cons ha (zos_cons hb zos_nil he2) he) (by decide) (by decide) he hpl
end
end Z

set_option Elab.async false
set_option linter.all false
set_option maxRecDepth 100000
set_option maxHeartbeats 4000000
/-! Z12: comprehensions; zip. -/
namespace Z
open PySem PySem.Spec PyProof.Rows L2

def wipeE (ρ : Env) : List Nat → Env
  | [] => ρ
  | v :: vs => (wipeE ρ vs).set v none
section
variable {m : M} {c : Cz} {ρ : Env} {T : List D} {σ : Sl} {tv : List V} {H F : Hp} {A B : List Addr}
theorem ZSx.wiped (hp : c.par = []) : ∀ {vs : List Nat}, ZSx m c ρ T σ tv H F A B → ∃ A', ZSx m c (wipeE ρ vs) T (wipe σ vs) tv H F A' B
  | [], s => ⟨A, s⟩
  | v :: vs, s => by
    obtain ⟨A', s1⟩ := ZSx.wiped hp (vs := vs) s
    obtain ⟨A2, r, p⟩ := s1.sl.drop (i := v)
    have np : ∀ (σ' : Sl), ∀ q ∈ c.par, σ'[q.1]? = some q.2 := fun σ' q hq => by rw [hp] at hq; exact nomatch hq
    refine ⟨A2, ?_⟩
    show ZSx m c ((wipeE ρ vs).set v none) T ((wipe σ vs).set v none) tv H F A2 B
    by_cases hv : v < (wipeE ρ vs).length
    · have e0 : ((wipeE ρ vs).set v none)[v]? = some none := by simp [hv]
      exact s1.slPerm (r.setS e0) p (np _)
    · have e1 : (wipe σ vs).set v none = wipe σ vs := List.set_eq_of_length_le (by rw [s1.sl.length]; omega)
      rw [e1]
      exact s1.slPerm r p (np _)
theorem wipeE_length (ρ : Env) : ∀ vs : List Nat, (wipeE ρ vs).length = ρ.length
  | [] => rfl
  | v :: vs => by unfold wipeE; rw [List.length_set, wipeE_length ρ vs]
theorem wipeE_in {ρ : Env} {i : Nat} : ∀ {vs : List Nat}, i ∈ vs → i < ρ.length → (wipeE ρ vs)[i]? = some none
  | [], h, _ => nomatch h
  | v :: vs, h, hl => by
    unfold wipeE
    by_cases e : v = i
    · subst e
      rw [List.getElem?_set_self (by rw [wipeE_length]; exact hl)]
    · rw [List.getElem?_set_ne e]
      exact wipeE_in ((List.mem_cons.mp h).resolve_left fun z => e z.symm) hl
/-- empty slots take any values -/
theorem RepE.swapV : ∀ {σ σ' : Sl} {ρ : Env} {A : List Addr}, RepE m F H σ ρ A → σ.length = σ'.length → (∀ (i : Nat) (d : D), ρ[i]? = some (some d) → σ[i]? = σ'[i]?) → RepE m F H σ' ρ A
  | _, [], _, _, .nil, _, _ => .nil
  | _, _ :: _, _, _, .nil, h, _ => by simp at h
  | _, [], _, _, .no _, h, _ => by simp at h
  | _, _ :: σ', _, _, .no r, h, k => .no (RepE.swapV r (by simpa using h) fun i d e => by
    have := k (i + 1) d (by simpa using e)
    simpa using this)
  | _, [], _, _, .yes _ _, h, _ => by simp at h
  | _, x :: σ', _, _, .yes (v := v) (d := d) hr r, h, k => by
    have := k 0 d rfl
    have e : x = some v := by simpa using this.symm
    subst e
    exact .yes hr (RepE.swapV r (by simpa using h) fun i d e => by
      have := k (i + 1) d (by simpa using e)
      simpa using this)
theorem wipe_in {σ : Sl} {i : Nat} : ∀ {vs : List Nat}, i ∈ vs → i < σ.length → (wipe σ vs)[i]? = some none
  | [], h, _ => nomatch h
  | v :: vs, h, hl => by
    unfold wipe
    by_cases e : v = i
    · subst e
      rw [List.getElem?_set_self (by rw [wipe_length]; exact hl)]
    · rw [List.getElem?_set_ne e]
      exact wipe_in ((List.mem_cons.mp h).resolve_left fun z => e z.symm) hl
theorem wipe_eq {σ σ' : Sl} {vs : List Nat} (hl : σ.length = σ'.length) (h : ∀ i, i < σ.length → i ∉ vs → σ[i]? = σ'[i]?) : wipe σ vs = wipe σ' vs := by
  refine List.ext_getElem? fun i => ?_
  by_cases hi : i < σ.length
  · by_cases hv : i ∈ vs
    · rw [wipe_in hv hi, wipe_in hv (hl ▸ hi)]
    · rw [wipe_out hv, wipe_out hv, h i hi hv]
  · rw [List.getElem?_eq_none (by rw [wipe_length]; omega), List.getElem?_eq_none (by rw [wipe_length]; omega)]
/-- something held goes to the end of a list that is held -/
theorem ZS.absorb {o : Bool} {acc : List D} {y : D} {yv : V} {L : Addr} (ho : o = true) (s : ZS m c ρ (.nd (.lst o) acc :: y :: T) σ (.ref L :: yv :: tv) H) : ∃ accv, H L = some (.lst accv) ∧ accv.length = acc.length ∧ ZS m c ρ (.nd (.lst o) (acc ++ [y]) :: T) σ (.ref L :: tv) (upd H L (.lst (accv ++ [yv]))) := by
  subst ho
  obtain ⟨F, A, B, s⟩ := s
  cases id s.tm with
  | cons h r =>
    rename_i B1 B2
    cases r with
    | cons hy r =>
      rename_i B3 B4
      obtain ⟨a, ws, ex, C1, e1, rfl, q2, q3⟩ := rep_own h rfl
      cases e1
      obtain ⟨rfl, g1⟩ := q2
      refine ⟨ws, g1, q3.length, ?_⟩
      have P : (A ++ ((L :: ([] ++ C1)) ++ (B3 ++ B4))).Perm (L :: (A ++ (C1 ++ (B3 ++ B4)))) := by
        show (A ++ (L :: (C1 ++ (B3 ++ B4)))).Perm _
        exact List.perm_middle
      have nd1 := P.nodup_iff.mp s.nd
      rw [List.nodup_cons] at nd1
      obtain ⟨na, nd1⟩ := nd1
      have hpl : L ∈ A ++ ((L :: ([] ++ C1)) ++ (B3 ++ B4)) := P.mem_iff.mpr List.mem_cons_self
      have Fa : F L = none := s.nf L hpl
      have keepB : ∀ b ∈ A ++ (C1 ++ (B3 ++ B4)), upd H L (.lst (ws ++ [yv])) b = H b := fun b hb => upd_ne fun z => na (z ▸ hb)
      have inC : ∀ b ∈ C1, b ∈ A ++ (C1 ++ (B3 ++ B4)) := fun b hb => List.mem_append_right _ (List.mem_append_left _ hb)
      have in3 : ∀ b ∈ B3, b ∈ A ++ (C1 ++ (B3 ++ B4)) := fun b hb => List.mem_append_right _ (List.mem_append_right _ (List.mem_append_left _ hb))
      have in4 : ∀ b ∈ B4, b ∈ A ++ (C1 ++ (B3 ++ B4)) := fun b hb => List.mem_append_right _ (List.mem_append_right _ (List.mem_append_right _ hb))
      have PP : (A ++ ((L :: ([] ++ (C1 ++ (B3 ++ [])))) ++ B4)).Perm (A ++ ((L :: ([] ++ C1)) ++ (B3 ++ B4))) := by
        have : (A ++ ((L :: ([] ++ (C1 ++ (B3 ++ [])))) ++ B4)) = (A ++ ((L :: ([] ++ C1)) ++ (B3 ++ B4))) := by simp [List.append_assoc]
        rw [this]
      refine ⟨F, A, (L :: ([] ++ (C1 ++ (B3 ++ [])))) ++ B4, fun b o hb => ?_, s.sl.mono (Same.refl _) fun b hb => keepB b (List.mem_append_left _ hb),
        .cons (.ow rfl ⟨rfl, upd_same⟩ ((q3.mono (Same.refl _) fun b hb => keepB b (inC b hb)).append (.cons (hy.mono (Same.refl _) fun b hb => keepB b (in3 b hb)) .nil))) (r.mono (Same.refl _) fun b hb => keepB b (in4 b hb)),
        PP.nodup_iff.mpr s.nd, fun b hb => s.nf b (PP.mem_iff.mp hb), s.fin, s.fnw, fun b hb => s.own b (PP.mem_iff.mp hb), fun b o h1 h2 => ?_, fun b hb => ?_, s.par⟩
      · have ne : b ≠ L := fun z => by rw [z, Fa] at hb; cases hb
        rw [upd_ne ne]; exact s.sub _ _ hb
      · have ne : b ≠ L := fun z => by
          subst z
          rcases s.own b hpl with q | q
          · exact h2 q
          · rw [q] at h1; cases h1
        rw [upd_ne ne]
        exact s.keep b o h1 h2
      · have ne : b ≠ L := fun z => by
          subst z
          rw [upd_same] at hb; cases hb
        rw [upd_ne ne] at hb
        exact s.thr b hb
theorem ZS.perm2 {d e : D} {v w : V} (s : ZS m c ρ (d :: e :: T) σ (v :: w :: tv) H) : ZS m c ρ (e :: d :: T) σ (w :: v :: tv) H := by
  obtain ⟨F, A, B, s⟩ := s
  obtain ⟨B', r, p⟩ := s.tm.perm2
  exact ⟨F, A, B', s.tmPerm r ⟨[], by simpa using p⟩⟩
end

theorem Reps.unrot {m : M} {T : List D} {tv : List V} {H F : Hp} : ∀ {ds : List D} {vs : List V} {d : D} {v : V} {A : List Addr}, ds.length = vs.length → Reps m F H (v :: (vs ++ tv)) (d :: (ds ++ T)) A → ∃ B, Reps m F H (vs ++ v :: tv) (ds ++ d :: T) B ∧ A.Perm B
  | [], [], _, _, A, _, r => ⟨A, r, List.Perm.refl _⟩
  | _ :: ds, _ :: vs, d, v, _, h, r => by
    obtain ⟨B, r2, p⟩ := Reps.perm2 r
    cases r2 with
    | cons h1 r3 =>
      rename_i A1 A2
      obtain ⟨C, r4, p4⟩ := Reps.unrot (ds := ds) (vs := vs) (by simpa using h) r3
      exact ⟨A1 ++ C, .cons h1 r4, p.trans (List.Perm.append_left A1 p4)⟩
  | [], _ :: _, _, _, _, h, _ => by simp at h
  | _ :: _, [], _, _, _, h, _ => by simp at h
theorem ZS.unrot {m : M} {c : Cz} {ρ : Env} {T : List D} {σ : Sl} {tv : List V} {H : Hp} {ds : List D} {vs : List V} {d : D} {v : V} (s : ZS m c ρ (d :: (ds ++ T)) σ (v :: (vs ++ tv)) H) (h : ds.length = vs.length) : ZS m c ρ (ds ++ d :: T) σ (vs ++ v :: tv) H := by
  obtain ⟨F, A, B, s⟩ := s
  obtain ⟨C, r, p⟩ := Reps.unrot h s.tm
  exact ⟨F, A, C, s.tmPerm r ⟨[], by simpa using p⟩⟩

/-! ### comprehensions -/
def WN : WX := fun _ _ _ _ => False
def evT : Option TF → TF
  | none => fun ρ => .ok true ρ
  | some t => t
def tTs (m : M) : Option TF → TT
  | none => tYes
  | some t => tT m WN t
def lcL (g : TgF) (t : TF) (f : EF) (vs : List Nat) : List D → List D → Env → R (List D)
  | [], acc, ρ => .ok acc ρ
  | x :: xs, acc, ρ => match g x (wipeE ρ vs) with
    | some ρ1 => if ρ1.length = ρ.length then (t ρ1).bind fun b ρ2 => if b = true then (f ρ2).bind fun y ρ3 => if acc.length < sizeLine ∧ ρ3.length = ρ.length then lcL g t f vs xs (acc ++ [y]) ρ3 else .stuck else if ρ2.length = ρ.length then lcL g t f vs xs acc ρ2 else .stuck else .stuck
    | none => .stuck
def zLc (n : Nat) (src : IF) (g : TgF) (t : Option TF) (f : EF) (vs : List Nat) : EF := fun ρ => (src ρ).bind fun di ρ1 => if ρ1.length = n then match lcL g (evT t) f vs di.2 [] ρ1 with
  | .ok acc ρ3 => .ok (.nd (.lst true) acc) (wipeE ρ3 vs)
  | _ => .stuck else .stuck
/-- the slots that a block leaves alone -/
def kpB (n : Nat) (vs : List Nat) : List Nat := (List.range n).filter fun i => !(vs.contains i)
theorem kpB_mem {n i : Nat} {vs : List Nat} : i ∈ kpB n vs ↔ i < n ∧ i ∉ vs := by
  unfold kpB
  rw [List.mem_filter, List.mem_range]
  simp
def LcPost (L : List D → Env → Prop) : R (List D) → Prop
  | .ok acc ρ => L acc ρ
  | _ => False
theorem lc_run {m : M} {W : WX} {c : Cz} {ρ : Env} {T : List D} {σ : Sl} {tv : List V} {H : Hp} {Q : VK} {src : IF} {g : TgF} {t : Option TF} {f : EF} {vs : List Nat} {p : Bool} {n : Nat} (s : ZS m c ρ T σ tv H) (q : ZPost m W false c T σ tv H Q (zLc n src g t f vs ρ)) :
    tLc (iZ m W src) (gZ m (kpB n vs) g) (tTs m t) (tZ m WN p f) vs σ H Q := by
  refine ⟨c, ρ, T, tv, s, ?_⟩
  unfold zLc at q
  cases e : src ρ with
  | stuck => rw [e] at q; exact q
  | ex x ρ1 => rw [e] at q; exact q
  | ok di ρ1 =>
    obtain ⟨ds0, items⟩ := di
    rw [e] at q
    have q : ZPost m W false c T σ tv H Q (if ρ1.length = n then match lcL g (evT t) f vs items [] ρ1 with
      | .ok acc ρ3 => R.ok (D.nd (.lst true) acc) (wipeE ρ3 vs)
      | _ => .stuck else .stuck) := q
    split at q
    case isFalse => exact q.elim
    rename_i hl1
    intro ds us H1 J hlen s1 Y L hL
    -- the new list
    have s2 : ZS m c ρ1 (.nd (.lst true) [] :: (ds ++ T)) σ (.ref L :: (us ++ tv)) (upd H1 L (.lst [])) := ZS.newO (ds := []) (vs := []) s1 rfl hL rfl fun F => ⟨rfl, upd_same⟩
    obtain ⟨F, A, B, s3⟩ := s2.unrot hlen
    obtain ⟨A4, s4⟩ := ZSx.wiped (vs := vs) rfl s3.re
    have hσ : σ.length = n := by rw [s3.sl.length]; exact hl1
    let c' : Cz := ⟨F, upd H1 L (.lst []), A ++ B, parOf (kpB n vs) 0 (wipe σ vs)⟩
    have hpar : ∀ q ∈ c'.par, (wipe σ vs)[q.1]? = some q.2 := fun q hq => by
      obtain ⟨_, _, h⟩ := parOf_mem hq
      simpa using h
    have hkp : Kp c' (kpB n vs) := fun q hq => (parOf_mem hq).1
    have s5 : ZSx m c' (wipeE ρ1 vs) (ds ++ .nd (.lst true) [] :: T) (wipe σ vs) (us ++ .ref L :: tv) (upd H1 L (.lst [])) F A4 B :=
      ⟨s4.sub, s4.sl, s4.tm, s4.nd, s4.nf, s4.fin, s4.fnw, s4.own, s4.keep, s4.thr, hpar⟩
    -- back to the outer state
    have back : ∀ {ρ' : Env} {T' : List D} {tv' : List V} {H' : Hp}, ZS m c' (wipeE ρ' vs) T' (wipe σ vs) tv' H' → ρ'.length = n → ZS m c (wipeE ρ' vs) T' σ tv' H' := fun {ρ' T' tv' H'} z hl => by
      obtain ⟨F', A', B', z⟩ := z
      have z1 : ZSx m ⟨F, upd H1 L (.lst []), A ++ B, []⟩ (wipeE ρ' vs) T' σ tv' H' F' A' B' := by
        refine ⟨z.sub, z.sl.swapV (wipe_length σ vs) fun i dd ed => ?_, z.tm, z.nd, z.nf, z.fin, z.fnw, z.own, z.keep, z.thr, fun q hq => nomatch hq⟩
        have hni : i ∉ vs := fun hi => by
          have hlt : i < ρ'.length := by
            have := (List.getElem?_eq_some_iff.mp ed).1
            rw [wipeE_length] at this; exact this
          rw [wipeE_in hi hlt] at ed; cases ed
        exact wipe_out hni
      exact ⟨F', A', B', s3.back z1 s3.par⟩
    -- σ of the block
    have same : ∀ {ρ' : Env} {T' : List D} {σ' : Sl} {tv' : List V} {H' : Hp}, ZS m c' ρ' T' σ' tv' H' → ρ'.length = n → wipe σ' vs = wipe σ vs := fun {ρ' T' σ' tv' H'} z hl => by
      obtain ⟨F', A', B', z⟩ := z
      have hl' : σ'.length = n := z.sl.length.trans hl
      refine wipe_eq (by rw [hl', hσ]) fun i hi hv => ?_
      have hi2 : i < (wipe σ vs).length := by rw [wipe_length, hσ, ← hl']; exact hi
      have e1 : (wipe σ vs)[i]? = some (wipe σ vs)[i] := List.getElem?_eq_getElem hi2
      have hm : (0 + i, (wipe σ vs)[i]) ∈ c'.par := mem_parOf e1 (by rw [Nat.zero_add]; exact kpB_mem.mpr ⟨hl' ▸ hi, hv⟩)
      have := z.par _ hm
      rw [Nat.zero_add] at this
      rw [this, ← e1, wipe_out hv]
    -- the block's slots forgotten
    have wiped : ∀ {ρ' : Env} {T' : List D} {σ' : Sl} {tv' : List V} {H' : Hp}, ZS m c' ρ' T' σ' tv' H' → ρ'.length = n → wipe σ' vs = wipe σ vs → ZS m c' (wipeE ρ' vs) T' (wipe σ vs) tv' H' := fun {ρ' T' σ' tv' H'} z hl hw => by
      obtain ⟨F', A', B', z⟩ := z
      obtain ⟨A2, z2⟩ := ZSx.wiped (vs := vs) rfl z.re
      have z3 := z.re
      rw [hw] at z2
      exact ⟨F', A2, B', z.back z2 hpar⟩
    refine ⟨fun i mm H => mm = items.length - i ∧ i ≤ items.length ∧ ∃ ρ acc, ρ.length = n ∧ ZS m c' (wipeE ρ vs) (ds ++ .nd (.lst true) acc :: T) (wipe σ vs) (us ++ .ref L :: tv) H ∧ LcPost (fun acc ρ' => ρ'.length = n → ∀ H', ZS m c (wipeE ρ' vs) (ds ++ .nd (.lst true) acc :: T) σ (us ++ .ref L :: tv) H' → Q (.ref L) H') (lcL g (evT t) f vs (items.drop i) acc ρ), ⟨items.length, by simp, Nat.zero_le _, ρ1, [], hl1, ⟨F, A4, B, s5⟩, ?_⟩, ?_⟩
    · rw [List.drop_zero]
      cases e2 : lcL g (evT t) f vs items [] ρ1 with
      | stuck => rw [e2] at q; exact q
      | ex x ρ3 => rw [e2] at q; exact q
      | ok acc ρ3 =>
        rw [e2] at q
        intro hl3 H' z
        exact q (.ref L) H' (ZS.under (z.rot hlen) hlen) fun z => nomatch z
    · rintro i mm H6 ⟨rfl, hi, ρ2, acc, hl2, s6, q6⟩
      obtain ⟨y1, y2⟩ := Y c' (wipeE ρ2 vs) (.nd (.lst true) acc :: T) (wipe σ vs) (.ref L :: tv) H6 i s6
      by_cases hlt : i < items.length
      · rw [List.drop_eq_getElem_cons hlt, lcL] at q6
        obtain ⟨hgo, hy⟩ := y1 items[i] (List.getElem?_eq_getElem hlt)
        refine .inr ⟨hgo, fun H' => ∃ ρ acc, ρ.length = n ∧ ZS m c' (wipeE ρ vs) (ds ++ .nd (.lst true) acc :: T) (wipe σ vs) (us ++ .ref L :: tv) H' ∧ LcPost (fun acc ρ' => ρ'.length = n → ∀ H', ZS m c (wipeE ρ' vs) (ds ++ .nd (.lst true) acc :: T) σ (us ++ .ref L :: tv) H' → Q (.ref L) H') (lcL g (evT t) f vs (items.drop (i + 1)) acc ρ), fun H' h => ⟨items.length - (i + 1), by omega, rfl, hlt, h⟩, fun x H' hx => ?_⟩
        refine ⟨c', wipeE ρ2 vs, _, _, items[i], hkp, hy x H' hx, ?_⟩
        cases e3 : g items[i] (wipeE ρ2 vs) with
        | none => rw [e3] at q6; exact q6
        | some ρ3 =>
          rw [e3] at q6
          dsimp only at q6
          by_cases hl3 : ρ3.length = ρ2.length
          · rw [if_pos hl3] at q6
            intro σ3 H7 s7
            have hw := same s7 (hl3.trans hl2)
            refine ⟨hw, ?_⟩
            have tests : ∀ (K : Bool → Hp → Prop), (match evT t ρ3 with
                | .ok b ρ4 => ∀ H8, ZS m c' ρ4 (ds ++ .nd (.lst true) acc :: T) σ3 (us ++ .ref L :: tv) H8 → K b H8
                | _ => False) → tTs m t σ3 H7 K := fun K hK => by
              cases t with
              | none => exact hK H7 s7
              | some tf =>
                refine ⟨c', ρ3, _, _, s7, ?_⟩
                have hK : (match tf ρ3 with
                  | .ok b ρ4 => ∀ H8, ZS m c' ρ4 (ds ++ .nd (.lst true) acc :: T) σ3 (us ++ .ref L :: tv) H8 → K b H8
                  | _ => False) := hK
                cases e4 : tf ρ3 with
                | stuck => rw [e4] at hK; exact hK
                | ex x ρ4 => rw [e4] at hK; exact hK.elim
                | ok b ρ4 => rw [e4] at hK; exact fun H8 s8 _ => hK H8 s8
            refine tests _ ?_
            cases e4 : evT t ρ3 with
            | stuck => rw [e4] at q6; exact q6
            | ex x ρ4 => rw [e4] at q6; exact q6
            | ok b ρ4 =>
              rw [e4] at q6
              intro H8 s8
              cases b with
              | false =>
                simp only [R.bind, Bool.false_eq_true, if_false] at q6
                rw [if_neg Bool.false_ne_true]
                split at q6
                · rename_i hl4
                  exact ⟨ρ4, acc, hl4.trans hl2, wiped s8 (hl4.trans hl2) hw, q6⟩
                · exact q6.elim
              | true =>
                simp only [R.bind, if_true] at q6
                rw [if_pos rfl]
                refine ⟨c', ρ4, _, _, s8, ?_⟩
                cases e5 : f ρ4 with
                | stuck => rw [e5] at q6; exact q6
                | ex x ρ5 => rw [e5] at q6; exact q6.elim
                | ok y ρ5 =>
                  rw [e5] at q6
                  dsimp only at q6
                  split at q6
                  · rename_i hz
                    intro yv H9 s9 _
                    have s10 : ZS m c' ρ5 (.nd (.lst true) acc :: y :: (ds ++ T)) σ3 (.ref L :: yv :: (us ++ tv)) H9 := ZS.rot (ds := y :: ds) (vs := yv :: us) (T := T) (tv := tv) s9 (by simpa using hlen)
                    obtain ⟨accv, g1, g2, g3⟩ := ZS.absorb rfl s10
                    exact ⟨accv, g1, by rw [g2]; exact hz.1, ρ5, acc ++ [y], hz.2.trans hl2, wiped (g3.unrot hlen) (hz.2.trans hl2) hw, q6⟩
                  · exact q6.elim
          · rw [if_neg hl3] at q6; exact q6.elim
      · have e0 : items.drop i = [] := List.drop_eq_nil_iff.mpr (by omega)
        rw [e0, lcL] at q6
        exact .inl ⟨y2 (by omega), q6 hl2 H6 (back s6 hl2)⟩


section
variable {X : Cx} {W : WX} {kp : List Nat} {n : Nat}
abbrev AnyX (X : Cx) (scope : Scope) (P : Cx → Prop) : Prop := ∀ (s : Shared) (H : Hp) (C : Addr) (cl : List (Str × Addr)) (fp : List Addr), P (X.blk s H scope (compEnvC scope cl C X.env) fp)
theorem ze_lc {elt tg iter : Expr} {ifs : List Expr} {scope : Scope} {own : List (Str × Nat)} {vs : List Nat} {pos : Pos} {src : IF} {g : TgF} {t : Option TF} {f : EF} {p : Bool} (hc : X.calm = true) (hN : X.N.Nodup) (hi : ZI X W tg iter src) (ok : BlkOk X.N X.env.scope scope own) (hv : own.map (·.2) = vs)
    (hg : AnyX X scope fun Y => PG Y tg (gZ (mOf X) (kpB n vs) g)) (ht : AnyX X scope fun Y => PTs Y ifs (tTs (mOf X) t))
    (he : AnyX X scope fun Y => PE Y elt (tZ (mOf X) WN p f)) (hs : ∀ x, foldedSetIterable iter X.env x = pure x := by intro _; rfl) :
    ZE X W false (.ListComp elt [⟨tg, iter, ifs, 0⟩] scope pos) (zLc n src g t f vs) := by
  subst hv
  exact peImp (pe_lc hc hN hi ok hg ht he hs) fun σ H Q ⟨c, ρ, T, tv, s, q⟩ => lc_run s q
/-- name = [..] -/
theorem zs_setLc {i : Nat} {y : Str} {py : Pos} {elt tg iter : Expr} {ifs : List Expr} {scope : Scope} {own : List (Str × Nat)} {vs : List Nat} {pos spos : Pos} {src : IF} {g : TgF} {t : Option TF} {f : EF} {p : Bool} (hc : X.calm = true) (hN : X.N.Nodup) (hy : X.N[i]? = some y) (hyl : X.env.scope.names.lookup y = some .local)
    (hsw : swapsWith (.ListComp elt [⟨tg, iter, ifs, 0⟩] scope pos) (some (.Name y py)) spos.line X.env = pure true) (hi : ZI X W tg iter src) (ok : BlkOk X.N X.env.scope scope own) (hv : own.map (·.2) = vs)
    (hg : AnyX X scope fun Y => PG Y tg (gZ (mOf X) (kpB n vs) g)) (ht : AnyX X scope fun Y => PTs Y ifs (tTs (mOf X) t))
    (he : AnyX X scope fun Y => PE Y elt (tZ (mOf X) WN p f)) (hk : i ∉ kp) (hs : ∀ x, foldedSetIterable iter X.env x = pure x := by intro _; rfl) :
    ZSt X W kp (.Assign [.Name y py] (.ListComp elt [⟨tg, iter, ifs, 0⟩] scope pos) spos) (zSet (tgN i) (zLc n src g t f vs)) := by
  subst hv
  refine zs_set (p := false) (psImp (ps_setLc hc hN hy hyl hsw hi ok hg ht he hs) fun E σ H h => ?_) hk
  obtain ⟨c, ρ, T, tv, s, q⟩ := h
  exact lc_run s q
end

/-! ### zip -/
def zipD (xs ys : List D) : List D := List.zipWith (fun x y => D.nd .tup [x, y]) xs ys
theorem zipD_get {xs ys : List D} {i : Nat} {z : D} (h : (zipD xs ys)[i]? = some z) : ∃ x y, xs[i]? = some x ∧ ys[i]? = some y ∧ z = .nd .tup [x, y] := by
  unfold zipD at h
  rw [List.getElem?_zipWith] at h
  split at h
  · rename_i a b e1 e2
    cases h
    exact ⟨_, _, e1, e2, rfl⟩
  · cases h
theorem zipD_end {xs ys : List D} {i : Nat} (h : (zipD xs ys).length ≤ i) : xs.length ≤ i ∨ ys.length ≤ i := by
  unfold zipD at h
  rw [List.length_zipWith] at h
  omega
/-- both lists, or both tuples -/
inductive Two where
  | l (o1 o2 : Bool) (xs ys : List D)
  | t (xs ys : List D)
def Two.src : Two → List D × List D
  | .l _ _ xs ys => ([.nd (.lst false) (frzL ys), .nd (.lst false) (frzL xs)], zipD (frzL xs) (frzL ys))
  | .t xs ys => ([.nd .tup (frzL ys), .nd .tup (frzL xs)], zipD (frzL xs) (frzL ys))
def two : D → D → Option Two
  | .nd (.lst o1) xs, .nd (.lst o2) ys => some (.l o1 o2 xs ys)
  | .nd .tup xs, .nd .tup ys => some (.t xs ys)
  | _, _ => none
theorem two_l {a b : D} {o1 o2 : Bool} {xs ys : List D} (h : two a b = some (.l o1 o2 xs ys)) : a = .nd (.lst o1) xs ∧ b = .nd (.lst o2) ys := by
  unfold two at h
  split at h
  · cases h; exact ⟨rfl, rfl⟩
  · cases h
  · cases h
theorem two_t {a b : D} {xs ys : List D} (h : two a b = some (.t xs ys)) : a = .nd .tup xs ∧ b = .nd .tup ys := by
  unfold two at h
  split at h
  · cases h
  · cases h; exact ⟨rfl, rfl⟩
  · cases h
def zZip (f g : EF) : IF := fun ρ => (f ρ).bind fun a ρ1 => (g ρ1).bind fun b ρ2 => match two a b with
  | some t => .ok t.src ρ2
  | none => .stuck
section
variable {m : M} {c : Cz} {ρ : Env} {T : List D} {σ : Sl} {tv : List V} {H F : Hp} {A B : List Addr}
theorem zip_item {ka kb : Kd} {xs ys : List D} {us ws : List V} {av bv : V} {C1 C2 : List Addr} {i : Nat} {x y : D} (s : ZSx m c ρ (.nd kb ys :: .nd ka xs :: T) σ (bv :: av :: tv) H F A B) (px : (D.nd ka xs).pure = true) (py : (D.nd kb ys).pure = true)
    (rx : Reps m F H us xs C1) (ry : Reps m F H ws ys C2) (ex : xs[i]? = some x) (ey : ys[i]? = some y) :
    ∃ xv yv, us[i]? = some xv ∧ ws[i]? = some yv ∧ ∀ p, H p = none → ZS m c ρ (.nd .tup [x, y] :: .nd kb ys :: .nd ka xs :: T) σ (.ref p :: bv :: av :: tv) (upd H p (.tup [xv, yv])) := by
  obtain ⟨xv, _, e1, r1, _⟩ := rx.get ex
  obtain ⟨yv, _, e2, r2, _⟩ := ry.get ey
  refine ⟨xv, yv, e1, e2, fun p hp => ?_⟩
  have s1 := (s.pushF (r2.pureR (pure_item py ey) (Same.refl _))).pushF (r1.pureR (pure_item px ex) (Same.refl _))
  exact ZS.newT (ds := [x, y]) (vs := [xv, yv]) ⟨F, A, B, s1⟩ rfl hp
theorem yields_zip {xs ys : List D} {a b : Addr} (px : (D.nd (.lst false) xs).pure = true) (py : (D.nd (.lst false) ys).pure = true) : Yields m [.nd (.lst false) ys, .nd (.lst false) xs] (zipD xs ys) [.ref b, .ref a] (Itz m.K a b) := by
  intro c ρ T σ tv H i s
  obtain ⟨F, A, B, s⟩ := s
  have s : ZSx m c ρ (.nd (.lst false) ys :: .nd (.lst false) xs :: T) σ (.ref b :: .ref a :: tv) H F A B := s
  cases id s.tm with
  | cons rb r =>
    cases r with
    | cons ra r =>
      obtain ⟨a', us, A', e, h1, h2⟩ := rep_lst ra s.sub
      cases e
      obtain ⟨b', ws, B', e, h3, h4⟩ := rep_lst rb s.sub
      cases e
      refine ⟨fun z hz => ?_, fun hi => ⟨us, ws, SqL.of h1, SqL.of h3, by rw [h2.length, h4.length]; exact zipD_end hi⟩⟩
      obtain ⟨x, y, ex, ey, rfl⟩ := zipD_get hz
      obtain ⟨xv, yv, e1, e2, k⟩ := zip_item s px py h2 h4 ex ey
      refine ⟨⟨us, ws, xv, yv, SqL.of h1, SqL.of h3, e1, e2⟩, fun v H' hy => ?_⟩
      obtain ⟨p, x', y', rfl, hp, rfl, g1, g2⟩ := hy
      have e3 := g1 us (SqL.of h1)
      rw [e1] at e3
      cases e3
      have e4 := g2 ws (SqL.of h3)
      rw [e2] at e4
      cases e4
      exact k p hp
theorem yields_zipT {xs ys : List D} {a b : Addr} (px : (D.nd .tup xs).pure = true) (py : (D.nd .tup ys).pure = true) : Yields m [.nd .tup ys, .nd .tup xs] (zipD xs ys) [.ref b, .ref a] (RZ.ItzT m.K a b) := by
  intro c ρ T σ tv H i s
  obtain ⟨F, A, B, s⟩ := s
  have s : ZSx m c ρ (.nd .tup ys :: .nd .tup xs :: T) σ (.ref b :: .ref a :: tv) H F A B := s
  cases id s.tm with
  | cons rb r =>
    cases r with
    | cons ra r =>
      obtain ⟨a', us, A', e, h1, h2⟩ := rep_tup ra
      cases e
      obtain ⟨b', ws, B', e, h3, h4⟩ := rep_tup rb
      cases e
      have h1 := Same.sqT s.sub h1
      have h3 := Same.sqT s.sub h3
      refine ⟨fun z hz => ?_, fun hi => ⟨us, ws, h1, h3, by rw [h2.length, h4.length]; exact zipD_end hi⟩⟩
      obtain ⟨x, y, ex, ey, rfl⟩ := zipD_get hz
      obtain ⟨xv, yv, e1, e2, k⟩ := zip_item s px py h2 h4 ex ey
      refine ⟨⟨us, ws, xv, yv, h1, h3, e1, e2⟩, fun v H' hy => ?_⟩
      obtain ⟨p, x', y', rfl, hp, rfl, g1, g2⟩ := hy
      have e3 := g1 us h1
      rw [e1] at e3
      cases e3
      have e4 := g2 ws h3
      rw [e2] at e4
      cases e4
      exact k p hp
end
section
variable {X : Cx} {W : WX} {e1 e2 : Expr} {p1 p2 : Bool} {f g : EF} {p pos tpos : Pos} {elts : List Expr} {kk : Nat}
theorem zi_zip (hg : Gl X "zip") (hm : X.mg "zip" = none) (h1 : ZE X W p1 e1 f) (h2 : ZE X W p2 e2 g) (hs1 : starEach [e1, e2] X.env = (false, eval e1 X.env) :: starEach [e2] X.env := by rfl) (hs2 : starEach [e2] X.env = (false, eval e2 X.env) :: starEach [] X.env := by rfl) (hpl : (backTo pos (starEach [e2] X.env)).any (·.1) = false := by rfl) :
    ZI X W (.Tuple elts kk tpos) (.Call (.Name "zip" p) [e1, e2] [] pos) (zZip f g) :=
  piImp (RZ.pi_zipA hg hm (pa_cons h1 (pa_cons h2 pa_nil hs2) hs1) hs1 hpl) fun σ H Q ⟨c, ρ, T, tv, s, q⟩ => by
    refine ⟨c, ρ, T, tv, s, ?_⟩
    unfold zZip at q
    cases e : f ρ with
    | stuck => rw [e] at q; exact q
    | ex x ρ1 => rw [e] at q; exact q
    | ok a ρ1 =>
      rw [e] at q
      intro av H1 s1 _
      have s2 := s1.freeze.1
      refine ⟨c, ρ1, a.frz :: T, av :: tv, s2, ?_⟩
      have q : IPost (mOf X) W c T σ tv Q ((g ρ1).bind fun b ρ2 => match two a b with
        | some t => .ok t.src ρ2
        | none => .stuck) := q
      cases e' : g ρ1 with
      | stuck => rw [e'] at q; exact q
      | ex x ρ2 => rw [e'] at q; exact fun cls dx H' z s' => q cls dx H' z s'.pop
      | ok b ρ2 =>
        rw [e'] at q
        intro bv H2 s3 _
        have s4 := s3.freeze.1
        have q : IPost (mOf X) W c T σ tv Q (match two a b with
          | some t => .ok t.src ρ2
          | none => .stuck) := q
        cases e5 : two a b with
        | none => rw [e5] at q; exact q.elim
        | some t =>
          rw [e5] at q
          cases t with
          | l o1 o2 xs ys =>
            obtain ⟨rfl, rfl⟩ := two_l e5
            rw [D.frz, D.frz] at s4
            obtain ⟨F, A, B, s5⟩ := id s4
            cases id s5.tm with
            | cons rb r =>
              cases r with
              | cons ra r =>
                obtain ⟨a', us, A', rfl, h1, h2⟩ := rep_lst (o := false) ra s5.sub
                obtain ⟨b', ws, B', rfl, h3, h4⟩ := rep_lst (o := false) rb s5.sub
                exact ⟨a', b', us, ws, rfl, .inl ⟨SqL.of h1, SqL.of h3, q [_, _] [_, _] _ _ rfl s4 (yields_zip (m := mOf X) (frz_shape (d := .nd (.lst o1) xs) rfl) (frz_shape (d := .nd (.lst o2) ys) rfl))⟩⟩
          | t xs ys =>
            obtain ⟨rfl, rfl⟩ := two_t e5
            rw [D.frz, D.frz] at s4
            obtain ⟨F, A, B, s5⟩ := id s4
            cases id s5.tm with
            | cons rb r =>
              cases r with
              | cons ra r =>
                obtain ⟨a', us, A', rfl, h1, h2⟩ := rep_tup ra
                obtain ⟨b', ws, B', rfl, h3, h4⟩ := rep_tup rb
                exact ⟨a', b', us, ws, rfl, .inr ⟨Same.sqT s5.sub h1, Same.sqT s5.sub h3, q [_, _] [_, _] _ _ rfl s4 (yields_zipT (m := mOf X) (frz_shape (d := .nd .tup xs) rfl) (frz_shape (d := .nd .tup ys) rfl))⟩⟩
end
end Z

set_option Elab.async false
set_option linter.all false
set_option maxRecDepth 100000
set_option maxHeartbeats 4000000
/-! Z13: [::-1] of lists and tuples; tests by comparison; defs from the head's facts. -/
namespace Z
open PySem PySem.Spec PyProof.Rows L2

section
variable {prog : Program} {w : World} {A : Around} {E : Value → Shared → Prop} {s : Shared}
end
section
variable {X : Cx}
end
section
variable {X : Cx} {W : WX} {p1 p2 p3 pos : Pos} {p : Bool} {e : Expr} {o : Opd} {k : Nat}
end

/-! ### tests -/
section
variable {X : Cx} {W : WX} {pos : Pos} {p1 p2 : Bool} {o1 o2 : Opd} {a b : Expr}
theorem zt_eq (hu : X.A.units + 64 < cLine) (ha : ZO X W p1 a o1) (hb : ZO X W p2 b o2) : ZT X W (.Compare a [.Eq] [b] pos) (evB (zOps gEq [o1, o2])) := zt_cmp (c := a) (op_eqD hu) lr_eq ha hb (nomark _)
theorem zt_ne (hu : X.A.units + 64 < cLine) (ha : ZO X W p1 a o1) (hb : ZO X W p2 b o2) : ZT X W (.Compare a [.NotEq] [b] pos) (evB (zOps gNe [o1, o2])) := zt_cmp (c := a) (op_neD hu) lr_ne ha hb (nomark _)
theorem zt_lt (hu : X.A.units + 64 < cLine) (ha : ZO X W p1 a o1) (hb : ZO X W p2 b o2) : ZT X W (.Compare a [.Lt] [b] pos) (evB (zOps gLt [o1, o2])) := zt_cmp (c := a) (op_ltAll hu) lr_lt ha hb (nomark _)
theorem zt_le (ha : ZO X W p1 a o1) (hb : ZO X W p2 b o2) : ZT X W (.Compare a [.LtE] [b] pos) (evB (zOps gLe [o1, o2])) := zt_cmp (c := a) op_le lr_cmpI ha hb (nomark _)
theorem zt_ge (ha : ZO X W p1 a o1) (hb : ZO X W p2 b o2) : ZT X W (.Compare a [.GtE] [b] pos) (evB (zOps gGe [o1, o2])) := zt_cmp (c := a) op_ge lr_cmpI ha hb (nomark _)
theorem zt_is (ha : ZO X W p1 a o1) (hb : ZO X W p2 b o2) : ZT X W (.Compare a [.Is] [b] pos) (evB (zOps gIsN [o1, o2])) := zt_cmp (c := a) op_isAll lr_is ha hb (nomark _)
theorem zt_in (hu : X.A.units + 100 < cLine) (ha : ZO X W p1 a o1) (hb : ZO X W p2 b o2) (hm : behindInMarks .In b = false) : ZT X W (.Compare a [.In] [b] pos) (evB (zOps gIn [o1, o2])) :=
  zt_cmp (c := a) (op_inAll hu) (lr_inB fun ds d h => by
    obtain ⟨b, h1, h2⟩ := Option.map_eq_some_iff.mp h
    exact ⟨b, h1, h2.symm⟩) ha hb hm
end

/-! ### defs from the head's facts -/
abbrev W0 : WX := fun _ _ _ _ => False
abbrev FnP (K : PySem.W.Frag) (x : Str) (st : Stmt) (f : Addr) (fd : FuncData) : Prop := FunD K x x (defArgs st) (defBody st) (defScope st) [] [] f fd
theorem fn_okD {P : Program} {w : World} {K : PySem.W.Frag} {mg : Str → Option Value} {base : Heap} {x : Str} {st : Stmt} {f : Addr} {fd : FuncData} {N ps : List Str} {k : Nat} {kp : List Nat} {b : SF} (F : FnP K x st f fd) (S : FnScope N ps (defScope st))
    (hb : ∀ (cdv : Value) (A : Around) (outer : List PySem.Env) (s : Shared) (H : Hp) (E : XK), Room k (A.deeper (envOfC x (defScope st) s.heap.objs.size f cdv)) → ZB (cxOf CX0 P w K mg base N x (defScope st) f cdv A outer s H E).nox W0 kp (defBody st) b) :
    FnOk P w K mg base CX0 (k + 1) f fd ps (spZ ⟨P, w, K, mg⟩ ps.length (fnOf0 N.length kp b)) := by
  have hpl : ps.length ≤ N.length := by have := congrArg List.length S.pre; rw [List.length_take] at this; omega
  refine F.ok S (fun vs H Q E h => ?_) (fun cdv A outer s H vs Q E hr h => ?_)
  · obtain ⟨_, _, _, h, _⟩ := h
    exact h
  · obtain ⟨F0, ds, A0, hl, sm, r, nd, nf, q⟩ := h
    refine ⟨_, PSs.nox (hb cdv A outer s H E hr), ?_⟩
    exact fn_run (W := W0) (m := ⟨P, w, K, mg⟩) (n := N.length) (kp := kp) (b := b) (E := fun _ _ _ => False) (fun _ _ _ _ z => z) (by omega) sm r nd nf (Q := Q) (by
      cases e : fnOf0 N.length kp b ds with
      | none => rw [e] at q; exact q.elim
      | some fr =>
        rw [e] at q
        obtain ⟨e2, d, bk, rfl⟩ := fnOf0_ret e
        rw [e2]
        exact q)
/-- what is never called -/
theorem fn_none {P : Program} {w : World} {K : PySem.W.Frag} {mg : Str → Option Value} {base : Heap} {x : Str} {st : Stmt} {f : Addr} {fd : FuncData} {N ps : List Str} {k : Nat} (F : FnP K x st f fd) (S : FnScope N ps (defScope st)) :
    FnOk P w K mg base CX0 (k + 1) f fd ps (spZ ⟨P, w, K, mg⟩ ps.length (fun _ => none)) := by
  refine F.ok S (fun vs H Q E h => ?_) (fun cdv A outer s H vs Q E hr h => ?_)
  · obtain ⟨_, _, _, h, _⟩ := h
    exact h
  · obtain ⟨F0, ds, A0, hl, sm, r, nd, nf, q⟩ := h
    exact q.elim
theorem hu_64 {A : Around} {k : Nat} (hr : Room k A) : A.units + 64 < cLine := hr.units
theorem hu_100 {A : Around} {k : Nat} (hr : Room k A) : A.units + 100 < cLine := by have := hr.un; omega
end Z

set_option Elab.async false
set_option linter.all false
set_option maxRecDepth 100000
set_option maxHeartbeats 4000000
/-! Z14: what the combinators compute, as rules for simp. -/
namespace Z
open PySem

def wp {α : Type} (f : Env → R α) (ρ : Env) (Q : α → Env → Prop) : Prop := match f ρ with
  | .ok a ρ' => Q a ρ'
  | _ => False
def opt {α : Type} (o : Option α) (Q : α → Prop) : Prop := match o with
  | some d => Q d
  | none => False
def got (o : Option (Option D)) (Q : D → Prop) : Prop := match o with
  | some (some d) => Q d
  | _ => False
def br (b : Bool) (P R : Prop) : Prop := match b with
  | true => P
  | false => R
def sat (φ : Fn) (ds : List D) (Q : D → Env → Prop) : Prop := match φ ds with
  | some (.ret d bk) => Q d bk
  | _ => False
def nxt (fl : Fl) (g : SF) (ρ : Env) (Q : Fl → Env → Prop) : Prop := match fl with
  | .nx => wp g ρ Q
  | .bk => Q .bk ρ
  | .ct => Q .ct ρ
  | .rt d => Q (.rt d) ρ
def lop (fl : Fl) (f : SF) (ρ : Env) (Q : Fl → Env → Prop) : Prop := match fl with
  | .nx => wp f ρ Q
  | .ct => wp f ρ Q
  | .bk => Q .nx ρ
  | .rt d => Q (.rt d) ρ
def tgp (g : TgF) (d : D) (ρ : Env) (Q : Env → Prop) : Prop := match g d ρ with
  | some r => Q r
  | none => False
def fin (bk : Env → Env) (Q : D → Env → Prop) (fl : Fl) (ρ : Env) : Prop := match fl with
  | .rt d => Q d (bk ρ)
  | .nx => Q (.at .non) (bk ρ)
  | _ => False

section
variable {α β : Type} {f g : Env → R α} {ρ : Env} {Q : α → Env → Prop}
theorem wp_ext {Q' : α → Env → Prop} (h : ∀ a ρ, Q a ρ ↔ Q' a ρ) : wp f ρ Q ↔ wp f ρ Q' := by
  unfold wp
  cases f ρ <;> simp_all
theorem wp_mono {Q' : α → Env → Prop} (h : wp f ρ Q) (k : ∀ a ρ, Q a ρ → Q' a ρ) : wp f ρ Q' := by
  unfold wp at h ⊢
  cases e : f ρ <;> rw [e] at h
  · exact k _ _ h
  · exact h
  · exact h
theorem wp_bnd {k : α → Env → R β} {Q : β → Env → Prop} : wp (fun ρ => (f ρ).bind k) ρ Q ↔ wp f ρ (fun a ρ' => wp (k a) ρ' Q) := by
  unfold wp
  dsimp only
  cases f ρ <;> exact Iff.rfl
theorem wp_okI {a : α} : wp (fun ρ => R.ok a ρ) ρ Q ↔ Q a ρ := Iff.rfl
theorem wp_br {b : Bool} : wp (fun ρ => if b = true then f ρ else g ρ) ρ Q ↔ br b (wp f ρ Q) (wp g ρ Q) := by
  cases b <;> exact Iff.rfl
theorem wp_if {p : Prop} [Decidable p] : wp (fun ρ => if p then f ρ else .stuck) ρ Q ↔ p ∧ wp f ρ Q := by
  by_cases h : p
  · simp [h]
  · constructor
    · intro z
      rw [show (fun ρ => if p then f ρ else R.stuck) = fun _ => R.stuck from funext fun _ => if_neg h] at z
      exact z.elim
    · exact fun z => absurd z.1 h
theorem wp_ifE {p : Env → Prop} [∀ ρ, Decidable (p ρ)] : wp (fun ρ => if p ρ then f ρ else .stuck) ρ Q ↔ p ρ ∧ wp f ρ Q := by
  unfold wp
  by_cases h : p ρ
  · simp [h]
  · simp [h]
theorem br_t {P R : Prop} : br true P R ↔ P := Iff.rfl
theorem br_f {P R : Prop} : br false P R ↔ R := Iff.rfl
theorem br_intro {b : Bool} {P R : Prop} (h1 : b = true → P) (h2 : b = false → R) : br b P R := by
  cases b
  · exact h2 rfl
  · exact h1 rfl
theorem br_dec {p : Prop} [Decidable p] {P R : Prop} (h1 : p → P) (h2 : ¬ p → R) : br (decide p) P R := by
  by_cases h : p
  · rw [decide_eq_true h]; exact h1 h
  · rw [decide_eq_false h]; exact h2 h
end
section
variable {f g : EF} {sf sg : SF} {tf tg : TF} {ρ : Env} {fs : List EF} {os : List Opd}
theorem nxt_nx {Q : Fl → Env → Prop} : nxt .nx sg ρ Q ↔ wp sg ρ Q := Iff.rfl
theorem nxt_bk {Q : Fl → Env → Prop} : nxt .bk sg ρ Q ↔ Q .bk ρ := Iff.rfl
theorem nxt_ct {Q : Fl → Env → Prop} : nxt .ct sg ρ Q ↔ Q .ct ρ := Iff.rfl
theorem nxt_rt {Q : Fl → Env → Prop} {d : D} : nxt (.rt d) sg ρ Q ↔ Q (.rt d) ρ := Iff.rfl
theorem lop_nx {Q : Fl → Env → Prop} : lop .nx sg ρ Q ↔ wp sg ρ Q := Iff.rfl
theorem lop_bk {Q : Fl → Env → Prop} : lop .bk sg ρ Q ↔ Q .nx ρ := Iff.rfl
theorem lop_ct {Q : Fl → Env → Prop} : lop .ct sg ρ Q ↔ wp sg ρ Q := Iff.rfl
theorem lop_rt {Q : Fl → Env → Prop} {d : D} : lop (.rt d) sg ρ Q ↔ Q (.rt d) ρ := Iff.rfl
theorem fin_nx {bk : Env → Env} {Q : D → Env → Prop} : fin bk Q .nx ρ ↔ Q (.at .non) (bk ρ) := Iff.rfl
theorem fin_rt {bk : Env → Env} {Q : D → Env → Prop} {d : D} : fin bk Q (.rt d) ρ ↔ Q d (bk ρ) := Iff.rfl
-- statements
theorem wp_zNx {Q : Fl → Env → Prop} : wp zNx ρ Q ↔ Q .nx ρ := Iff.rfl
theorem wp_zSeq {Q : Fl → Env → Prop} : wp (zSeq sf sg) ρ Q ↔ wp sf ρ fun fl ρ' => nxt fl sg ρ' Q :=
  wp_bnd.trans (wp_ext fun fl ρ' => by cases fl <;> exact Iff.rfl)
theorem wp_zEx {Q : Fl → Env → Prop} : wp (zEx f) ρ Q ↔ wp f ρ fun _ ρ' => Q .nx ρ' := wp_bnd
theorem wp_zRet {Q : Fl → Env → Prop} : wp (zRet f) ρ Q ↔ wp f ρ fun d ρ' => Q (.rt d) ρ' := wp_bnd
theorem wp_zIfS {Q : Fl → Env → Prop} : wp (zIfS tf sf sg) ρ Q ↔ wp tf ρ fun b ρ' => br b (wp sf ρ' Q) (wp sg ρ' Q) := wp_bnd.trans (wp_ext fun b ρ' => wp_br)
theorem wp_zSet {g : TgF} {Q : Fl → Env → Prop} : wp (zSet g f) ρ Q ↔ wp f ρ fun d ρ' => tgp g d ρ' (Q .nx) := wp_bnd.trans (wp_ext fun d ρ' => by
  unfold tgp wp
  dsimp only
  cases g d ρ' <;> exact Iff.rfl)
theorem wp_zPar {is : List Nat} {Q : Fl → Env → Prop} : wp (zPar is fs) ρ Q ↔ wp (evL fs) ρ fun ds ρ' => opt (tgL (is.map tgN) ds ρ') (Q .nx) := wp_bnd.trans (wp_ext fun d ρ' => by
  unfold opt wp
  dsimp only
  cases tgL (is.map tgN) d ρ' <;> exact Iff.rfl)
theorem tgp_tgN {i : Nat} {d : D} {Q : Env → Prop} : tgp (tgN i) d ρ Q ↔ i < ρ.length ∧ Q (ρ.set i (some d)) := by
  unfold tgp tgN
  by_cases h : i < ρ.length
  · rw [if_pos h]; exact ⟨fun z => ⟨h, z⟩, fun z => z.2⟩
  · rw [if_neg h]; exact ⟨fun z => z.elim, fun z => absurd z.1 h⟩
theorem tgp_tgT {gs : List TgF} {ds : List D} {Q : Env → Prop} : tgp (tgT gs) (.nd .tup ds) ρ Q ↔ opt (tgL gs ds ρ) Q := by
  show (match tgL gs ds ρ with | some r => Q r | none => False) ↔ _
  unfold opt
  cases tgL gs ds ρ <;> exact Iff.rfl
theorem opt_tgL {g : TgF} {gs : List TgF} {d : D} {ds : List D} {Q : Env → Prop} : opt (tgL (g :: gs) (d :: ds) ρ) Q ↔ tgp g d ρ fun ρ' => opt (tgL gs ds ρ') Q := by
  unfold tgp
  show opt ((g d ρ).bind fun r => tgL gs ds r) Q ↔ _
  cases g d ρ <;> exact Iff.rfl
theorem tgp_tgSub {i : Nat} {p : List Stp} {u : MutF} {d : D} {Q : Env → Prop} : tgp (tgSub i p f u) d ρ Q ↔ (getE ρ i p).isSome = true ∧ wp f ρ fun kd ρ1 => opt (mutE ρ1 i p u [kd, d]) fun q => Q q.1 := by
  unfold tgp tgSub wp
  by_cases h : (getE ρ i p).isSome = true
  · rw [if_pos h]
    cases f ρ with
    | ok kd ρ1 =>
      simp only [h, true_and]
      cases mutE ρ1 i p u [kd, d] <;> exact Iff.rfl
    | stuck => exact ⟨fun z => z.elim, fun z => z.2⟩
    | ex _ _ => exact ⟨fun z => z.elim, fun z => z.2⟩
  · rw [if_neg h]
    exact ⟨fun z => z.elim, fun z => absurd z.1 h⟩
-- expressions
theorem wp_eC {d : D} {Q : D → Env → Prop} : wp (eC d) ρ Q ↔ Q d ρ := Iff.rfl
theorem wp_eVar {i : Nat} {Q : D → Env → Prop} : wp (eVar i) ρ Q ↔ got ρ[i]? fun d => Q d.frz (ρ.set i (some d.frz)) := by
  unfold wp eVar got
  cases ρ[i]? with
  | none => exact Iff.rfl
  | some o => cases o <;> exact Iff.rfl
theorem wp_eMove {i : Nat} {Q : D → Env → Prop} : wp (eMove i) ρ Q ↔ got ρ[i]? fun d => Q d (ρ.set i none) := by
  unfold wp eMove got
  cases ρ[i]? with
  | none => exact Iff.rfl
  | some o => cases o <;> exact Iff.rfl
theorem wp_evO_nil {Q : List (D ⊕ Nat) → Env → Prop} : wp (evO []) ρ Q ↔ Q [] ρ := Iff.rfl
theorem wp_evO_v {Q : List (D ⊕ Nat) → Env → Prop} : wp (evO (.v f :: os)) ρ Q ↔ wp f ρ fun d ρ1 => wp (evO os) ρ1 fun r ρ2 => Q (.inl d :: r) ρ2 := by
  show wp (fun ρ => (f ρ).bind fun d ρ1 => (evO os ρ1).bind fun r ρ2 => .ok (.inl d :: r) ρ2) ρ Q ↔ _
  exact wp_bnd.trans (wp_ext fun d ρ1 => wp_bnd)
theorem wp_evO_p {i : Nat} {Q : List (D ⊕ Nat) → Env → Prop} : wp (evO (.p i :: os)) ρ Q ↔ got ρ[i]? fun _ => wp (evO os) ρ fun r ρ2 => Q (.inr i :: r) ρ2 := by
  have key : ∀ o, ρ[i]? = o → (wp (evO (.p i :: os)) ρ Q ↔ got o fun _ => wp (evO os) ρ fun r ρ2 => Q (.inr i :: r) ρ2) := fun o e => by
    unfold wp
    rw [evO, e]
    cases o with
    | none => exact Iff.rfl
    | some o =>
      cases o with
      | none => exact Iff.rfl
      | some d =>
        dsimp only [got]
        cases evO os ρ <;> exact Iff.rfl
  exact key _ rfl
theorem wp_evL_nil {Q : List D → Env → Prop} : wp (evL []) ρ Q ↔ Q [] ρ := Iff.rfl
theorem wp_evL {Q : List D → Env → Prop} : wp (evL (f :: fs)) ρ Q ↔ wp f ρ fun d ρ1 => wp (evL fs) ρ1 fun r ρ2 => Q (d :: r) ρ2 := by
  show wp (fun ρ => (f ρ).bind fun d ρ1 => (evL fs ρ1).bind fun r ρ2 => .ok (d :: r) ρ2) ρ Q ↔ _
  exact wp_bnd.trans (wp_ext fun d ρ1 => wp_bnd)
theorem wp_zOps {g : List D → Option D} {Q : D → Env → Prop} : wp (zOps g os) ρ Q ↔ wp (evO os) ρ fun r ρ' => opt ((fillO r ρ').bind g) fun d => Q d ρ' :=
  wp_bnd.trans (wp_ext fun r ρ' => by
    unfold opt wp
    dsimp only
    cases (fillO r ρ').bind g <;> exact Iff.rfl)
theorem wp_zNew {k : Kd} {Q : D → Env → Prop} : wp (zNew k fs) ρ Q ↔ wp (evL fs) ρ fun ds ρ' => ds.length ≤ sizeLine ∧ Q (.nd k ds) ρ' := wp_bnd.trans (wp_ext fun ds ρ' => wp_if)
theorem wp_zDisp {ks : List Str} {Q : D → Env → Prop} : wp (zDisp ks fs) ρ Q ↔ wp (evL fs) ρ fun ds ρ' => Q (.nd (.dk true (ks.map .inr)) ds) ρ' := wp_bnd
theorem wp_zCall {φ : Fn} {Q : D → Env → Prop} : wp (zCall φ os) ρ Q ↔ wp (evO os) ρ fun r ρ1 => opt (lendO r ρ1) fun q => sat φ q.1 fun d bk => Q d (giveO r bk q.2) :=
  wp_bnd.trans (wp_ext fun r ρ' => by
    unfold opt wp sat
    dsimp only
    cases lendO r ρ' with
    | none => exact Iff.rfl
    | some q =>
      obtain ⟨ds, ρ2⟩ := q
      dsimp only
      cases φ ds with
      | none => exact Iff.rfl
      | some fr => cases fr <;> exact Iff.rfl)
theorem wp_evB {Q : Bool → Env → Prop} : wp (evB f) ρ Q ↔ wp f ρ fun d ρ' => opt (asBl d) fun b => Q b ρ' := wp_bnd.trans (wp_ext fun d ρ' => by
  unfold opt wp
  dsimp only
  cases asBl d <;> exact Iff.rfl)
theorem wp_evI {Q : Int → Env → Prop} : wp (evI f) ρ Q ↔ wp f ρ fun d ρ' => opt (asInt d) fun b => Q b ρ' := wp_bnd.trans (wp_ext fun d ρ' => by
  unfold opt wp
  dsimp only
  cases asInt d <;> exact Iff.rfl)
theorem wp_tAnd {Q : Bool → Env → Prop} : wp (tAndF tf tg) ρ Q ↔ wp tf ρ fun b ρ' => br b (wp tg ρ' Q) (Q false ρ') := wp_bnd.trans (wp_ext fun b ρ' => by cases b <;> exact Iff.rfl)
theorem wp_tOr {Q : Bool → Env → Prop} : wp (tOrF tf tg) ρ Q ↔ wp tf ρ fun b ρ' => br b (Q true ρ') (wp tg ρ' Q) := wp_bnd.trans (wp_ext fun b ρ' => by cases b <;> exact Iff.rfl)
theorem wp_tNot {Q : Bool → Env → Prop} : wp (tNotF tf) ρ Q ↔ wp tf ρ fun b ρ' => Q (!b) ρ' := wp_bnd
theorem wp_zAnd {Q : D → Env → Prop} : wp (zAnd f g) ρ Q ↔ wp f ρ fun d ρ' => opt (asBl d) fun b => br b (wp g ρ' Q) (Q (.at (.bl false)) ρ') := wp_bnd.trans (wp_evB.trans (wp_ext fun d ρ' => by
  unfold opt
  cases asBl d with
  | none => exact Iff.rfl
  | some b => cases b <;> exact Iff.rfl))
theorem wp_zOr {Q : D → Env → Prop} : wp (zOr f g) ρ Q ↔ wp f ρ fun d ρ' => opt (asBl d) fun b => br b (Q (.at (.bl true)) ρ') (wp g ρ' Q) := wp_bnd.trans (wp_evB.trans (wp_ext fun d ρ' => by
  unfold opt
  cases asBl d with
  | none => exact Iff.rfl
  | some b => cases b <;> exact Iff.rfl))
theorem wp_zNot {Q : D → Env → Prop} : wp (zNot f) ρ Q ↔ wp f ρ fun d ρ' => opt (asBl d) fun b => Q (.at (.bl (!b))) ρ' := wp_bnd.trans (wp_evB.trans (wp_ext fun d ρ' => by
  unfold opt
  cases asBl d <;> exact Iff.rfl))
theorem wp_zIf {Q : D → Env → Prop} : wp (zIf tf f g) ρ Q ↔ wp tf ρ fun b ρ' => br b (wp f ρ' Q) (wp g ρ' Q) := wp_bnd.trans (wp_ext fun b ρ' => wp_br)
theorem wp_zChain {u w : Int → Int → Bool} {f1 f2 f3 : EF} {Q : D → Env → Prop} : wp (zChain u w f1 f2 f3) ρ Q ↔ wp f1 ρ fun d1 ρ1 => opt (asInt d1) fun i => wp f2 ρ1 fun d2 ρ2 => opt (asInt d2) fun j => br (u i j) (wp f3 ρ2 fun d3 ρ3 => opt (asInt d3) fun k => Q (.at (.bl (w j k))) ρ3) (Q (.at (.bl false)) ρ2) := by
  refine wp_bnd.trans (wp_evI.trans (wp_ext fun d1 ρ1 => ?_))
  unfold opt
  cases asInt d1 with
  | none => exact Iff.rfl
  | some i =>
    refine wp_bnd.trans (wp_evI.trans (wp_ext fun d2 ρ2 => ?_))
    unfold opt
    cases asInt d2 with
    | none => exact Iff.rfl
    | some j =>
      cases e : u i j with
      | false =>
        show wp (fun ρ2 => if u i j = true then (evI f3 ρ2).bind fun k ρ3 => .ok (.at (.bl (w j k))) ρ3 else .ok (.at (.bl false)) ρ2) ρ2 Q ↔ br (u i j) (wp f3 ρ2 fun d3 ρ3 => opt (asInt d3) fun k => Q (.at (.bl (w j k))) ρ3) (Q (.at (.bl false)) ρ2)
        rw [e]
        exact Iff.rfl
      | true =>
        show wp (fun ρ2 => if u i j = true then (evI f3 ρ2).bind fun k ρ3 => .ok (.at (.bl (w j k))) ρ3 else .ok (.at (.bl false)) ρ2) ρ2 Q ↔ br (u i j) (wp f3 ρ2 fun d3 ρ3 => opt (asInt d3) fun k => Q (.at (.bl (w j k))) ρ3) (Q (.at (.bl false)) ρ2)
        rw [e]
        show wp (fun ρ2 => (evI f3 ρ2).bind fun k ρ3 => .ok (.at (.bl (w j k))) ρ3) ρ2 Q ↔ wp f3 ρ2 fun d3 ρ3 => opt (asInt d3) fun k => Q (.at (.bl (w j k))) ρ3
        exact wp_bnd.trans (wp_evI.trans (wp_ext fun d3 ρ3 => by unfold opt; cases asInt d3 <;> exact Iff.rfl))
theorem wp_evP_none {Q : Option Int → Env → Prop} : wp (evP none) ρ Q ↔ Q none ρ := Iff.rfl
theorem wp_evP_some {Q : Option Int → Env → Prop} : wp (evP (some f)) ρ Q ↔ wp f ρ fun d ρ' => opt (asInt d) fun i => Q (some i) ρ' := by
  show wp (fun ρ => (evI f ρ).bind fun i ρ' => .ok (some i) ρ') ρ Q ↔ _
  exact wp_bnd.trans (wp_evI.trans (wp_ext fun d ρ' => by unfold opt; cases asInt d <;> exact Iff.rfl))
theorem wp_zSl {o : Opd} {lo hi : Option EF} {Q : D → Env → Prop} : wp (zSl o lo hi) ρ Q ↔ wp (evO [o]) ρ fun r ρ0 => wp (evP lo) ρ0 fun l ρ1 => wp (evP hi) ρ1 fun h ρ2 => opt ((fillO r ρ2).bind (one1 (gSl l h))) fun d => Q d ρ2 :=
  wp_bnd.trans (wp_ext fun r ρ0 => wp_bnd.trans (wp_ext fun l ρ1 => wp_bnd.trans (wp_ext fun h ρ2 => by
    unfold opt wp
    dsimp only
    cases (fillO r ρ2).bind (one1 (gSl l h)) <;> exact Iff.rfl)))
theorem wp_zMut {T : String} {i : Nat} {p : List Stp} {u : MutF} {Q : D → Env → Prop} : wp (zMut T i p u fs) ρ Q ↔ plTy T ρ i p = true ∧ wp (evL fs) ρ fun es ρ1 => opt (mutE ρ1 i p u es) fun q => Q q.2 q.1 := by
  unfold zMut
  refine (wp_ifE (f := fun ρ => (evL fs ρ).bind fun es ρ1 => match mutE ρ1 i p u es with
    | some (ρ2, res) => R.ok res ρ2
    | none => R.stuck)).trans (and_congr Iff.rfl (wp_bnd.trans (wp_ext fun es ρ1 => ?_)))
  unfold opt wp
  dsimp only
  cases mutE ρ1 i p u es <;> exact Iff.rfl
-- walks
theorem wp_zListI {Q : List D × List D → Env → Prop} : wp (zListI f) ρ Q ↔ wp f ρ fun d ρ' => opt (asLst d) fun xs => Q ([.nd (.lst false) (frzL xs)], frzL xs) ρ' := wp_bnd.trans (wp_ext fun d ρ' => by
  unfold opt wp
  dsimp only
  cases asLst d <;> exact Iff.rfl)
theorem wp_zTupI {Q : List D × List D → Env → Prop} : wp (zTupI f) ρ Q ↔ wp f ρ fun d ρ' => opt (asTup d) fun xs => Q ([.nd .tup (frzL xs)], frzL xs) ρ' := wp_bnd.trans (wp_ext fun d ρ' => by
  unfold opt wp
  dsimp only
  cases asTup d <;> exact Iff.rfl)
theorem wp_zRng1 {Q : List D × List D → Env → Prop} : wp (zRng1 f) ρ Q ↔ wp f ρ fun d ρ' => opt (asInt d) fun j => inR62 j = true ∧ Q ([], rangeD 0 j) ρ' := wp_bnd.trans (wp_evI.trans (wp_ext fun d ρ' => by
  unfold opt
  cases asInt d with
  | none => exact Iff.rfl
  | some j => exact wp_if))
theorem wp_zRng2 {Q : List D × List D → Env → Prop} : wp (zRng2 f g) ρ Q ↔ wp f ρ fun d ρ' => opt (asInt d) fun i => wp g ρ' fun d2 ρ2 => opt (asInt d2) fun j => (inR62 i = true ∧ inR62 j = true) ∧ Q ([], rangeD i j) ρ2 := wp_bnd.trans (wp_evI.trans (wp_ext fun d ρ' => by
  unfold opt
  cases asInt d with
  | none => exact Iff.rfl
  | some i => exact wp_bnd.trans (wp_evI.trans (wp_ext fun d2 ρ2 => by
      unfold opt
      cases asInt d2 with
      | none => exact Iff.rfl
      | some j => exact wp_if))))
theorem wp_zZip {Q : List D × List D → Env → Prop} : wp (zZip f g) ρ Q ↔ wp f ρ fun a ρ1 => wp g ρ1 fun b ρ2 => opt (two a b) fun t => Q t.src ρ2 := wp_bnd.trans (wp_ext fun a ρ1 => wp_bnd.trans (wp_ext fun b ρ2 => by
  unfold opt wp
  dsimp only
  cases two a b <;> exact Iff.rfl))
theorem wp_forL_nil {g : TgF} {Q : Fl → Env → Prop} : wp (forL g sf []) ρ Q ↔ Q .nx ρ := Iff.rfl
theorem wp_forL {g : TgF} {x : D} {xs : List D} {Q : Fl → Env → Prop} : wp (forL g sf (x :: xs)) ρ Q ↔ tgp g x ρ fun ρ1 => wp sf ρ1 fun fl ρ2 => lop fl (forL g sf xs) ρ2 Q := by
  unfold tgp wp
  rw [forL]
  cases g x ρ with
  | none => exact Iff.rfl
  | some ρ1 =>
    dsimp only
    cases sf ρ1 with
    | stuck => exact Iff.rfl
    | ex _ _ => exact Iff.rfl
    | ok fl ρ2 => cases fl <;> exact Iff.rfl
theorem wp_zFor {src : IF} {g : TgF} {Q : Fl → Env → Prop} : wp (zFor src g sf) ρ Q ↔ wp src ρ fun di ρ' => wp (forL g sf di.2) ρ' Q := wp_bnd
theorem wp_zLc {n : Nat} {src : IF} {g : TgF} {t : Option TF} {vs : List Nat} {Q : D → Env → Prop} : wp (zLc n src g t f vs) ρ Q ↔ wp src ρ fun di ρ1 => ρ1.length = n ∧ wp (lcL g (evT t) f vs di.2 []) ρ1 fun acc ρ3 => Q (.nd (.lst true) acc) (wipeE ρ3 vs) := wp_bnd.trans (wp_ext fun di ρ1 => by
  refine (wp_ifE (p := fun ρ1 => ρ1.length = n) (f := fun ρ1 => match lcL g (evT t) f vs di.2 [] ρ1 with
    | .ok acc ρ3 => R.ok (D.nd (.lst true) acc) (wipeE ρ3 vs)
    | _ => .stuck)).trans (and_congr Iff.rfl ?_)
  unfold wp
  dsimp only
  cases lcL g (evT t) f vs di.2 [] ρ1 <;> exact Iff.rfl)
theorem wp_lcL {g : TgF} {vs : List Nat} {x : D} {xs acc : List D} {Q : List D → Env → Prop} : wp (lcL g tf f vs (x :: xs) acc) ρ Q ↔ tgp g x (wipeE ρ vs) fun ρ1 => ρ1.length = ρ.length ∧ wp tf ρ1 fun b ρ2 =>
    br b (wp f ρ2 fun y ρ3 => (acc.length < sizeLine ∧ ρ3.length = ρ.length) ∧ wp (lcL g tf f vs xs (acc ++ [y])) ρ3 Q) (ρ2.length = ρ.length ∧ wp (lcL g tf f vs xs acc) ρ2 Q) := by
  unfold tgp wp
  rw [lcL]
  cases g x (wipeE ρ vs) with
  | none => exact Iff.rfl
  | some ρ1 =>
    dsimp only
    by_cases h1 : ρ1.length = ρ.length
    · rw [if_pos h1]
      simp only [h1, true_and]
      cases tf ρ1 with
      | stuck => exact Iff.rfl
      | ex _ _ => exact Iff.rfl
      | ok b ρ2 =>
        cases b with
        | false =>
          simp only [R.bind, br, Bool.false_eq_true, if_false]
          by_cases h2 : ρ2.length = ρ.length
          · simp only [h2, if_true, true_and]
          · simp only [h2, if_false, false_and]
        | true =>
          simp only [R.bind, br, if_true]
          cases f ρ2 with
          | stuck => exact Iff.rfl
          | ex _ _ => exact Iff.rfl
          | ok y ρ3 =>
            dsimp only
            by_cases h2 : acc.length < sizeLine ∧ ρ3.length = ρ.length
            · simp only [h2, and_self, if_true, true_and]
            · simp only [h2, if_false, false_and]
    · rw [if_neg h1]
      exact ⟨fun z => z.elim, fun z => absurd z.1 h1⟩
-- calls
theorem sat_fn {n : Nat} {kp : List Nat} {ds : List D} {Q : D → Env → Prop} : sat (fnOf0 n kp sf) ds Q ↔ wp sf (fnEnv n ds) (fin (bkO kp 0 ds.length) Q) := by
  unfold sat wp fnOf0 fin
  cases sf (fnEnv n ds) with
  | stuck => exact Iff.rfl
  | ex _ _ => exact Iff.rfl
  | ok fl ρ => cases fl <;> exact Iff.rfl
theorem sat_mono {φ : Fn} {ds : List D} {Q Q' : D → Env → Prop} (h : sat φ ds Q) (k : ∀ d bk, Q d bk → Q' d bk) : sat φ ds Q' := by
  unfold sat at h ⊢
  cases e : φ ds with
  | none => rw [e] at h; exact h.elim
  | some fr =>
    rw [e] at h
    cases fr with
    | ret d bk => exact k _ _ h
    | exc _ _ => exact h.elim
def lopI (I : Env → Prop) (Q : Fl → Env → Prop) (fl : Fl) (ρ : Env) : Prop := match fl with
  | .nx => I ρ
  | .ct => I ρ
  | .bk => Q .nx ρ
  | .rt d => Q (.rt d) ρ
theorem lopI_nx {I : Env → Prop} {Q : Fl → Env → Prop} : lopI I Q .nx ρ ↔ I ρ := Iff.rfl
theorem lopI_ct {I : Env → Prop} {Q : Fl → Env → Prop} : lopI I Q .ct ρ ↔ I ρ := Iff.rfl
theorem lopI_bk {I : Env → Prop} {Q : Fl → Env → Prop} : lopI I Q .bk ρ ↔ Q .nx ρ := Iff.rfl
theorem lopI_rt {I : Env → Prop} {Q : Fl → Env → Prop} {d : D} : lopI I Q (.rt d) ρ ↔ Q (.rt d) ρ := Iff.rfl
/-! a for over any list, by what holds ahead of the i-th item -/
theorem wp_for_inv {g : TgF} {xs : List D} {Q : Fl → Env → Prop} (I : Nat → Env → Prop) (h0 : I 0 ρ) (hs : ∀ i x ρ, xs[i]? = some x → I i ρ → tgp g x ρ fun ρ1 => wp sf ρ1 fun fl ρ2 => lopI (I (i + 1)) Q fl ρ2) (hd : ∀ ρ, I xs.length ρ → Q .nx ρ) : wp (forL g sf xs) ρ Q := by
  have key : ∀ (k : Nat) (ρ : Env), k ≤ xs.length → I (xs.length - k) ρ → wp (forL g sf (xs.drop (xs.length - k))) ρ Q := by
    intro k
    induction k with
    | zero =>
      intro ρ _ hI
      rw [Nat.sub_zero] at hI ⊢
      rw [List.drop_length]
      exact hd ρ hI
    | succ k ih =>
      intro ρ hk hI
      have hlt : xs.length - (k + 1) < xs.length := by omega
      rw [List.drop_eq_getElem_cons hlt, wp_forL]
      have h := hs _ _ ρ (List.getElem?_eq_getElem hlt) hI
      have e : xs.length - (k + 1) + 1 = xs.length - k := by omega
      rw [e] at h ⊢
      unfold tgp at h ⊢
      cases e2 : g xs[xs.length - (k + 1)] ρ with
      | none => rw [e2] at h; exact h
      | some ρ1 =>
        rw [e2] at h
        refine wp_mono h fun fl ρ2 h2 => ?_
        cases fl with
        | nx => exact ih ρ2 (by omega) h2
        | ct => exact ih ρ2 (by omega) h2
        | bk => exact h2
        | rt d => exact h2
  have := key xs.length ρ (Nat.le_refl _) (by rw [Nat.sub_self]; exact h0)
  rw [Nat.sub_self, List.drop_zero] at this
  exact this
end

/-! a comprehension over any list, likewise: what holds ahead of the i-th item of the slots, those of the block forgotten, and of what is there -/
section
variable {f : EF} {tf : TF} {ρ : Env}
theorem wp_lc_inv {g : TgF} {vs : List Nat} {xs : List D} {Q : List D → Env → Prop} (I : Nat → List D → Env → Prop) (h0 : I 0 [] (wipeE ρ vs))
    (hs : ∀ i x acc ρ, xs[i]? = some x → I i acc ρ → acc.length ≤ i → tgp g x ρ fun ρ1 => ρ1.length = ρ.length ∧ wp tf ρ1 fun b ρ2 => br b (wp f ρ2 fun y ρ3 => (acc.length < sizeLine ∧ ρ3.length = ρ.length) ∧ I (i + 1) (acc ++ [y]) (wipeE ρ3 vs)) (ρ2.length = ρ.length ∧ I (i + 1) acc (wipeE ρ2 vs)))
    (hd : ∀ acc ρ, I xs.length acc (wipeE ρ vs) → Q acc ρ) : wp (lcL g tf f vs xs []) ρ Q := by
  have key : ∀ (k : Nat) (acc : List D) (ρ : Env), k ≤ xs.length → acc.length ≤ xs.length - k → I (xs.length - k) acc (wipeE ρ vs) → wp (lcL g tf f vs (xs.drop (xs.length - k)) acc) ρ Q := by
    intro k
    induction k with
    | zero =>
      intro acc ρ _ _ hI
      rw [Nat.sub_zero] at hI ⊢
      rw [List.drop_length]
      exact hd acc ρ hI
    | succ k ih =>
      intro acc ρ hk hl hI
      have hlt : xs.length - (k + 1) < xs.length := by omega
      rw [List.drop_eq_getElem_cons hlt, wp_lcL]
      have h := hs _ _ acc (wipeE ρ vs) (List.getElem?_eq_getElem hlt) hI hl
      have e : xs.length - (k + 1) + 1 = xs.length - k := by omega
      rw [e, wipeE_length] at h
      rw [e]
      unfold tgp at h ⊢
      cases e2 : g xs[xs.length - (k + 1)] (wipeE ρ vs) with
      | none => rw [e2] at h; exact h
      | some ρ1 =>
        rw [e2] at h
        refine ⟨h.1, wp_mono h.2 fun b ρ2 h2 => ?_⟩
        cases b with
        | true => exact wp_mono h2 fun y ρ3 h3 => ⟨h3.1, ih _ ρ3 (by omega) (by rw [List.length_append]; simp; omega) h3.2⟩
        | false => exact ⟨h2.1, ih acc ρ2 (by omega) (by omega) h2.2⟩
  have := key xs.length [] ρ (Nat.le_refl _) (Nat.zero_le _) (by rw [Nat.sub_self]; exact h0)
  rw [Nat.sub_self, List.drop_zero] at this
  exact this
end

/-! ### the rules for a goal: one that fits is taken -/
section
variable {α : Type} {ρ ρ1 ρ2 ρ3 : Env} {d d' x y : D} {ds : List D} {r : List (D ⊕ Nat)} {i : Nat}
theorem got_of {o : Option (Option D)} {Q : D → Prop} (h : o = some (some d)) (k : Q d) : got o Q := by subst h; exact k
theorem opt_of {β : Type} {o : Option β} {b : β} {Q : β → Prop} (h : o = some b) (k : Q b) : opt o Q := by subst h; exact k
theorem opt_fill {g : List D → Option D} {Q : D → Prop} (h : fillO r ρ = some ds) (k : opt (g ds) Q) : opt ((fillO r ρ).bind g) Q := by rw [h]; exact k
theorem brT {b : Bool} {P R : Prop} (h : b = true) (k : P) : br b P R := by subst h; exact k
theorem brF {b : Bool} {P R : Prop} (h : b = false) (k : R) : br b P R := by subst h; exact k
theorem lend_nil : lendO [] ρ = some ([], ρ) := rfl
theorem lend_inl (h : lendO r ρ = some (ds, ρ1)) : lendO (.inl d :: r) ρ = some (d :: ds, ρ1) := by rw [lendO, h]; rfl
theorem lend_inr (h : ρ[i]? = some (some d)) (s : ρ.set i none = ρ1) (k : lendO r ρ1 = some (ds, ρ2)) : lendO (.inr i :: r) ρ = some (d :: ds, ρ2) := by rw [lendO, h]; subst s; show ((lendO r (ρ.set i none)).map _) = _; rw [k]; rfl
theorem give_nil {bk : Env} : giveO [] bk ρ = ρ := by cases bk <;> rfl
theorem give_inl {b : Option D} {bk : Env} (h : giveO r bk ρ = ρ1) : giveO (.inl d :: r) (b :: bk) ρ = ρ1 := by
  cases b <;> exact h
theorem give_no {bk : Env} (h : giveO r bk ρ = ρ1) : giveO (.inr i :: r) (none :: bk) ρ = ρ1 := h
theorem give_inr {bk : Env} (h : giveO r bk ρ = ρ1) (e : ρ1[i]? = some none) (s : ρ1.set i (some d) = ρ2) : giveO (.inr i :: r) (some d :: bk) ρ = ρ2 := by
  rw [giveO, h]
  show (match ρ1[i]? with | some none => ρ1.set i (some d) | _ => ρ1) = ρ2
  rw [e]
  exact s
theorem tgN_of' {Q : Env → Prop} (h : i < ρ.length) (s : ρ.set i (some d) = ρ1) (k : Q ρ1) : tgp (tgN i) d ρ Q := tgp_tgN.mpr ⟨h, s ▸ k⟩
theorem set_same : ∀ {ρ : Env} {i : Nat} {o : Option D}, ρ[i]? = some o → ρ.set i o = ρ
  | [], _, _, _ => rfl
  | a :: ρ, 0, o, h => by simp at h; subst h; rfl
  | a :: ρ, i + 1, o, h => by rw [List.set_cons_succ, set_same (by simpa using h)]
theorem var_pure {Q : D → Env → Prop} (h : ρ[i]? = some (some d)) (p : d.pure = true) (k : Q d ρ) : wp (eVar i) ρ Q := wp_eVar.mpr (got_of h (by rw [frz_pure d p, set_same h]; exact k))
theorem var_at {a : At} {Q : D → Env → Prop} (h : ρ[i]? = some (some (.at a))) (k : Q (.at a) ρ) : wp (eVar i) ρ Q := var_pure h rfl k
theorem var_frz {Q : D → Env → Prop} (h : ρ[i]? = some (some d)) (s : ρ.set i (some d.frz) = ρ1) (k : Q d.frz ρ1) : wp (eVar i) ρ Q := wp_eVar.mpr (got_of h (s ▸ k))
theorem move_of {Q : D → Env → Prop} (h : ρ[i]? = some (some d)) (s : ρ.set i none = ρ1) (k : Q d ρ1) : wp (eMove i) ρ Q := wp_eMove.mpr (got_of h (s ▸ k))
theorem call_of {φ : Fn} {Q : D → Env → Prop} (h : lendO r ρ = some (ds, ρ1)) (k : sat φ ds fun d bk => Q d (giveO r bk ρ1)) : opt (lendO r ρ) fun q => sat φ q.1 fun d bk => Q d (giveO r bk q.2) := opt_of h k
def mutP (d : D) (p : List Stp) (u : MutF) (es : List D) : Option (D × D) := ((getP d p).bind asNd).bind fun q => if q.1.own = true then (u q.1 q.2 es).bind fun r => if r.1.own = true then (setP d p (.nd r.1 r.2.1)).map fun d' => (d', r.2.2) else none else none
theorem mut_of {p : List Stp} {u : MutF} {es : List D} {res : D} {Q : Env × D → Prop} (h : ρ[i]? = some (some d)) (e : mutP d p u es = some (d', res)) (s : ρ.set i (some d') = ρ1) (k : Q (ρ1, res)) : opt (mutE ρ i p u es) Q := by
  refine opt_of (b := (ρ1, res)) ?_ k
  unfold mutE
  rw [h]
  unfold mutP at e
  show (((getP d p).bind asNd).bind fun q => if q.1.own = true then (u q.1 q.2 es).bind fun r => if r.1.own = true then (setP d p (.nd r.1 r.2.1)).map fun d' => (ρ.set i (some d'), r.2.2) else none else none) = _
  obtain ⟨q, h1, h2⟩ := Option.bind_eq_some_iff.mp e
  rw [h1, Option.bind_some]
  split at h2
  · rename_i ho
    rw [if_pos ho]
    obtain ⟨r, h3, h4⟩ := Option.bind_eq_some_iff.mp h2
    rw [h3, Option.bind_some]
    split at h4
    · rename_i hr
      rw [if_pos hr]
      obtain ⟨c, h5, h6⟩ := Option.map_eq_some_iff.mp h4
      rw [h5]
      cases h6
      subst s
      rfl
    · cases h4
  · cases h2
theorem app_of {xs : List D} {Q : Env × D → Prop} (h : ρ[i]? = some (some (.nd (.lst true) xs))) (hl : xs.length < sizeLine) (s : ρ.set i (some (.nd (.lst true) (xs ++ [x]))) = ρ1) (k : Q (ρ1, .at .non)) : opt (mutE ρ i [] uAppend [x]) Q :=
  mut_of h (by
    unfold mutP
    show (if true = true then (if xs.length < sizeLine then some (Kd.lst true, xs ++ [x], D.at .non) else none).bind fun r => if r.1.own = true then (setP (.nd (.lst true) xs) [] (.nd r.1 r.2.1)).map fun d' => (d', r.2.2) else none else none) = _
    rw [if_pos rfl, if_pos hl]
    rfl) s k
-- numbers
section
variable {i j : Int} {Q : D → Prop}
theorem o_add (k : Q (.at (.int (i + j)))) : opt (gAdd [.at (.int i), .at (.int j)]) Q := k
theorem o_sub (k : Q (.at (.int (i - j)))) : opt (gSub [.at (.int i), .at (.int j)]) Q := k
theorem o_mul (h : (-(2 ^ 64) < i ∧ i < 2 ^ 64) ∨ (-(2 ^ 64) < j ∧ j < 2 ^ 64)) (k : Q (.at (.int (i * j)))) : opt (gMul [.at (.int i), .at (.int j)]) Q := opt_of (if_pos (decide_eq_true h)) k
theorem o_div (h : 0 < j ∧ j < 1073741824) (k : Q (.at (.int (i / j)))) : opt (gDiv [.at (.int i), .at (.int j)]) Q := opt_of (if_pos (decide_eq_true h)) k
theorem o_mod (h : 0 < j) (k : Q (.at (.int (i % j)))) : opt (gMod [.at (.int i), .at (.int j)]) Q := opt_of (if_pos (decide_eq_true h)) k
theorem o_divmod (h : 0 < j ∧ j < 1073741824) (k : Q (.nd .tup [.at (.int (i / j)), .at (.int (i % j))])) : opt (gDivmod [.at (.int i), .at (.int j)]) Q := opt_of (if_pos h) k
theorem o_lt (k : Q (.at (.bl (decide (i < j))))) : opt (gLt [.at (.int i), .at (.int j)]) Q := k
theorem o_le (k : Q (.at (.bl (decide (i ≤ j))))) : opt (gLe [.at (.int i), .at (.int j)]) Q := k
theorem o_gt (k : Q (.at (.bl (decide (j < i))))) : opt (gGt [.at (.int i), .at (.int j)]) Q := k
theorem o_ge (k : Q (.at (.bl (decide (j ≤ i))))) : opt (gGe [.at (.int i), .at (.int j)]) Q := k
theorem eqD_int : eqD (.at (.int i)) (.at (.int j)) = decide (i = j) := by
  unfold eqD
  rw [D.py, D.py]
  rfl
theorem o_eqI (k : Q (.at (.bl (decide (i = j))))) : opt (gEq [.at (.int i), .at (.int j)]) Q := opt_of (b := .at (.bl (eqD (.at (.int i)) (.at (.int j))))) rfl (by rw [eqD_int]; exact k)
theorem o_neI (k : Q (.at (.bl (!decide (i = j))))) : opt (gNe [.at (.int i), .at (.int j)]) Q := opt_of (b := .at (.bl (!eqD (.at (.int i)) (.at (.int j))))) rfl (by rw [eqD_int]; exact k)
end
theorem o_eq {Q : D → Prop} (hx : x.ok = true) (hy : y.ok = true) (k : Q (.at (.bl (eqD x y)))) : opt (gEq [x, y]) Q := opt_of (if_pos ⟨hx, hy⟩) k
end
end Z

set_option Elab.async false
set_option linter.all false
set_option maxRecDepth 100000
set_option maxHeartbeats 4000000
/-! Z15: reading at a place: x['k'][i], len(x['k']), whoever owns what stands there. -/
namespace Z
open PySem PySem.Spec PyProof.Rows L2

def rdP : D → List Stp → Option D
  | d, [] => some d
  | .nd k xs, s :: p => (childN k s).bind fun i => (xs[i]?).bind fun c => rdP c p
  | .at _, _ :: _ => none
def rdE (ρ : Env) (i : Nat) (p : List Stp) : Option D := match ρ[i]? with
  | some (some d) => rdP d p
  | _ => none
section
variable {m : M} {F H : Hp}
theorem step_fz {k : Kd} {a : Addr} {vs : List V} {s : Stp} {i : Nat} {v : V} (sm : Same F H) (h : ObjF m F k a vs) (e : childN k s = some i) (hv : vs[i]? = some v) : StepV H (.ref a) s v := by
  unfold childN at e
  split at e
  · obtain ⟨h1, h2, h3⟩ := h
    exact ⟨a, _, rfl, sm _ _ h3, ixK_val e hv⟩
  · obtain ⟨C, dx, h1, h2, h3, h4⟩ := h
    exact ⟨a, C, dx, _, rfl, sm _ _ h3, ixK_look e hv⟩
  · cases e
theorem Rep.read (sm : Same F H) : ∀ {p : List Stp} {v : V} {d c : D} {A : List Addr}, Rep m F H v d A → rdP d p = some c → ∃ y B, WalkV H v p y ∧ Rep m F H y c B
  | [], v, d, c, A, h, e => by
    rw [rdP] at e; cases e
    exact ⟨v, A, rfl, h⟩
  | s :: p, v, .at a, c, A, h, e => by rw [rdP] at e; cases e
  | s :: p, v, .nd k xs, c, A, h, e => by
    rw [rdP] at e
    obtain ⟨i, e1, e⟩ := Option.bind_eq_some_iff.mp e
    obtain ⟨d1, e2, e⟩ := Option.bind_eq_some_iff.mp e
    cases h with
    | fz h1 h2 h3 h4 =>
      obtain ⟨v1, B1, g1, g2, _⟩ := h3.get e2
      obtain ⟨y, B, w1, w2⟩ := Rep.read sm g2 e
      exact ⟨y, B, ⟨v1, step_fz sm h2 e1 g1, w1⟩, w2⟩
    | ow h1 h2 h3 =>
      obtain ⟨v1, B1, g1, g2, _⟩ := h3.get e2
      obtain ⟨y, B, w1, w2⟩ := Rep.read sm g2 e
      exact ⟨y, B, ⟨v1, step_of h2 e1 g1, w1⟩, w2⟩
end
/-- g of what stands at a place -/
def zPl1 (g : D → Option D) (i : Nat) (p : List Stp) : EF := fun ρ => match (rdE ρ i p).bind g with
  | some d => .ok d ρ
  | none => .stuck
/-- .. and of an index -/
def zPlIx (i : Nat) (p : List Stp) (f : EF) : EF := fun ρ => if (rdE ρ i p).isSome = true then (f ρ).bind fun k ρ' => match (rdE ρ' i p).bind fun d => gIx [d, k] with
  | some d => .ok d ρ'
  | none => .stuck
  else .stuck
theorem rd_of {ρ : Env} {i : Nat} {p : List Stp} {d : D} (h : rdE ρ i p = some d) : ∃ x, ρ[i]? = some (some x) ∧ rdP x p = some d := by
  unfold rdE at h
  split at h
  · rename_i x e
    exact ⟨x, e, h⟩
  · cases h
section
variable {X : Cx} {W : WX} {pos : Pos} {o : Expr} {i : Nat} {p : List Stp} {f : EF}
theorem rd_rep {m : M} {c : Cz} {ρ : Env} {T : List D} {σ : Sl} {tv : List V} {H F : Hp} {A B : List Addr} {d : D} (s : ZSx m c ρ T σ tv H F A B) (h : rdE ρ i p = some d) : ∃ x y C, σ[i]? = some (some x) ∧ WalkV H x p y ∧ Rep m F H y d C := by
  obtain ⟨x, h1, h2⟩ := rd_of h
  obtain ⟨v, A1, A2, e1, e2, _⟩ := s.sl.take h1
  obtain ⟨y, C, w1, w2⟩ := e2.read s.sub h2
  exact ⟨v, y, C, e1, w1, w2⟩
theorem ze_pl1 {x : Str} {q : Pos} {id : String} {r : List V → Hp → VK → Prop} {g : D → Option D} (hc : CallR X (.builtin id) r) (lr : LR (mOf X) r (one1 g)) (hg : Gl X x) (hm : X.mg x = none) (hv : bootBuiltins x = some (.builtin id)) (ho : PE X o (tPl i p)) (hn : x ≠ "__name__" := by decide) (hdb : (x == ("__debug__" : Str)) = false := by decide)
    (he : starEach [o] X.env = (false, eval o X.env) :: starEach [] X.env := by rfl) (hpl : (backTo pos (starEach [] X.env)).any (·.1) = false := by rfl) : ZE X W true (.Call (.Name x q) [o] [] pos) (zPl1 g i p) :=
  peImp (pe_callB hc hg hm hv (pa_cons ho pa_nil he) hn hdb he hpl) fun σ H Q ⟨c, ρ, T, tv, s, q⟩ => by
    unfold zPl1 at q
    cases e : rdE ρ i p with
    | none => rw [e] at q; exact q.elim
    | some d =>
      rw [e, Option.bind_some] at q
      cases e2 : g d with
      | none => rw [e2] at q; exact q.elim
      | some d2 =>
        rw [e2] at q
        obtain ⟨F, A, B, s⟩ := s
        obtain ⟨x, y, C, h1, h2, h3⟩ := rd_rep s e
        have z : Reps (mOf X) F H [y] [d] (C ++ []) := .cons h3 .nil
        exact ⟨x, y, h1, h2, lr F H [y] [d] _ d2 Q s.sub z e2 (s.yield fun v H' s' k' => q v H' s' fun _ => k')⟩
theorem lr_len1 {m : M} : LR m (rLenAll m.P m.w m.K) (one1 fun d => gLen [d]) := by
  intro F H vs ds A d Q sm rs hg y
  unfold one1 at hg
  split at hg
  · exact lr_len F H vs _ A d Q sm rs hg y
  · cases hg
theorem ze_plLen {q : Pos} (hg : Gl X "len") (hm : X.mg "len" = none) (ho : PE X o (tPl i p)) (he : starEach [o] X.env = (false, eval o X.env) :: starEach [] X.env := by rfl) : ZE X W true (.Call (.Name "len" q) [o] [] pos) (zPl1 (fun d => gLen [d]) i p) :=
  ze_pl1 call_lenAll lr_len1 hg hm PySem.boot_len ho (he := he)
theorem ze_plIx {ix : Expr} (hu : X.A.units + 64 < cLine) (ho : PE X o (tPl i p)) (hi : ZE X W true ix f) (hs : PlainIx ix := by exact fun _ _ => rfl) : ZE X W true (.Subscript o ix pos) (zPlIx i p f) :=
  peImp (pe_ix (ix_all hu) ho hi hs) fun σ H Q ⟨c, ρ, T, tv, s, q⟩ => by
    unfold zPlIx at q
    split at q
    · rename_i h0
      obtain ⟨d0, e0⟩ := Option.isSome_iff_exists.mp h0
      have s0 := s
      obtain ⟨F, A, B, s⟩ := s
      obtain ⟨x, y, C, h1, h2, h3⟩ := rd_rep s e0
      refine ⟨x, y, h1, h2, c, ρ, T, tv, s0, ?_⟩
      cases e : f ρ with
      | stuck => rw [e] at q; exact q
      | ex _ _ => rw [e] at q; exact q
      | ok k ρ' =>
        rw [e] at q
        intro kv H2 s2 k2
        have q : ZPost (mOf X) W true c T σ tv H Q (match (rdE ρ' i p).bind fun d => gIx [d, k] with
          | some d => R.ok d ρ'
          | none => R.stuck) := q
        cases e2 : rdE ρ' i p with
        | none => rw [e2] at q; exact q.elim
        | some d =>
          rw [e2, Option.bind_some] at q
          cases e3 : gIx [d, k] with
          | none => rw [e3] at q; exact q.elim
          | some d2 =>
            rw [e3] at q
            have s3 := s2
            obtain ⟨F2, A2, B2, s2⟩ := s2
            obtain ⟨x', y', C2, g1, g2, g3⟩ := rd_rep s2 e2
            rw [h1] at g1
            cases g1
            have hy := (h2.mono (k2 rfl)).det g2
            subst hy
            cases id s2.tm with
            | cons hk r =>
              rename_i B3 B4
              have z : Reps (mOf X) F2 H2 [y, kv] [d, k] (C2 ++ (B3 ++ [])) := .cons g3 (.cons hk .nil)
              exact lr_ix F2 H2 [y, kv] [d, k] _ d2 Q s2.sub z e3 (s2.yield fun v H' s' k' => q v H' (ZS.under (ds := [k]) (vs := [kv]) s' rfl) fun _ => (k2 rfl).trans k')
    · exact q.elim
end
section
variable {ρ : Env} {i : Nat} {p : List Stp} {f : EF} {d : D}
theorem wp_zPl1 {g : D → Option D} {Q : D → Env → Prop} : wp (zPl1 g i p) ρ Q ↔ opt ((rdE ρ i p).bind g) fun d => Q d ρ := by
  unfold wp zPl1 opt
  cases (rdE ρ i p).bind g <;> exact Iff.rfl
theorem wp_zPlIx {Q : D → Env → Prop} : wp (zPlIx i p f) ρ Q ↔ (rdE ρ i p).isSome = true ∧ wp f ρ fun k ρ' => opt ((rdE ρ' i p).bind fun d => gIx [d, k]) fun d => Q d ρ' := by
  refine (wp_ifE (p := fun ρ => (rdE ρ i p).isSome = true) (f := fun ρ => (f ρ).bind fun k ρ' => match (rdE ρ' i p).bind fun d => gIx [d, k] with
    | some d => R.ok d ρ'
    | none => R.stuck)).trans (and_congr Iff.rfl (wp_bnd.trans (wp_ext fun k ρ' => ?_)))
  unfold opt wp
  dsimp only
  cases (rdE ρ' i p).bind fun d => gIx [d, k] <;> exact Iff.rfl
theorem rd_at {x : D} (h : ρ[i]? = some (some x)) (e : rdP x p = some d) : rdE ρ i p = some d := by
  unfold rdE
  rw [h]
  exact e
end
end Z

set_option Elab.async false
set_option linter.all false
set_option maxRecDepth 100000
set_option maxHeartbeats 4000000
/-! Z16: more rules for goals; what every law shares: the state of its draws. -/
namespace Z
open PySem L2
section
variable {ρ ρ' : Env} {d x : D} {ds xs : List D} {i : Nat} {p : List Stp}
theorem opt_g {g : List D → Option D} {b : D} {Q : D → Prop} (h : g ds = some b) (k : Q b) : opt (g ds) Q := opt_of h k
theorem opt_asBl {b : Bool} {Q : Bool → Prop} (k : Q b) : opt (asBl (.at (.bl b))) Q := k
theorem opt_asInt {b : Int} {Q : Int → Prop} (k : Q b) : opt (asInt (.at (.int b))) Q := k
theorem opt_asLst {o : Bool} {Q : List D → Prop} (k : Q xs) : opt (asLst (.nd (.lst o) xs)) Q := k
theorem opt_asTup {Q : List D → Prop} (k : Q xs) : opt (asTup (.nd .tup xs)) Q := k
theorem opt_tgN {Q : Env → Prop} (k : Q ρ) : opt (tgL [] [] ρ) Q := k
theorem opt_twoL {o1 o2 : Bool} {xs ys : List D} {Q : Two → Prop} (k : Q (.l o1 o2 xs ys)) : opt (two (.nd (.lst o1) xs) (.nd (.lst o2) ys)) Q := k
theorem opt_twoT {xs ys : List D} {Q : Two → Prop} (k : Q (.t xs ys)) : opt (two (.nd .tup xs) (.nd .tup ys)) Q := k
theorem plIx_of {f : EF} {Q : D → Env → Prop} (h : ρ[i]? = some (some x)) (e : rdP x p = some d) (k : wp f ρ fun k ρ' => opt ((rdE ρ' i p).bind fun d => gIx [d, k]) fun d => Q d ρ') : wp (zPlIx i p f) ρ Q :=
  wp_zPlIx.mpr ⟨by rw [rd_at h e]; rfl, k⟩
theorem plRd_of {g : D → Option D} {Q : D → Prop} (h : ρ[i]? = some (some x)) (e : rdP x p = some d) (k : opt (g d) Q) : opt ((rdE ρ i p).bind g) Q := by
  rw [rd_at h e, Option.bind_some]
  exact k
theorem sub_of {f : EF} {u : MutF} {Q : Env → Prop} (h : ρ[i]? = some (some x)) (e : (getP x p).isSome = true) (k : wp f ρ fun kd ρ1 => opt (mutE ρ1 i p u [kd, d]) fun q => Q q.1) : tgp (tgSub i p f u) d ρ Q :=
  tgp_tgSub.mpr ⟨by unfold getE; rw [h]; exact e, k⟩
theorem o_ixI {o : Bool} {j : Int} {Q : D → Prop} (h : atI xs j = some d) (p : d.pure = true) (k : Q d) : opt (gIx [.nd (.lst o) xs, .at (.int j)]) Q := opt_of (b := d) (by
  show pureO (atI xs j) = some d
  rw [h]
  show (if d.pure = true then some d else none) = some d
  rw [if_pos p]) k
theorem o_ixT {j : Int} {Q : D → Prop} (h : atI xs j = some d) (p : d.pure = true) (k : Q d) : opt (gIx [.nd .tup xs, .at (.int j)]) Q := opt_of (b := d) (by
  show pureO (atI xs j) = some d
  rw [h]
  show (if d.pure = true then some d else none) = some d
  rw [if_pos p]) k
end
abbrev inD (i : Int) : D := .at (.int i)
theorem pureL_inD : ∀ ns : List Int, pureL (ns.map inD) = true
  | [] => rfl
  | n :: ns => by rw [List.map_cons, pureL, pureL_inD ns]; rfl
/-- a script -/
def scD (ns : List Int) : D := .nd .scr (ns.map inD)
/-- the state of a law's draws -/
def stD (cells : List Int) (t : Int) : D := .nd (.dk true [.inr ("cells" : Str), .inr ("turn" : Str)]) [.nd (.lst true) (cells.map inD), .at (.int t)]
theorem st_cells {cells : List Int} {t : Int} : rdP (stD cells t) [.key ("cells" : Str)] = some (.nd (.lst true) (cells.map inD)) := rfl
theorem st_put {cells : List Int} {t u : Int} : mutP (stD cells t) [] uSet [.at (.str ("turn" : Str)), .at (.int u)] = some (stD cells u, .at .non) := rfl
theorem ixN_of {n : Nat} {j : Int} (h0 : 0 ≤ j) (h1 : j < n) : ixN n j = some j.toNat := by
  unfold ixN
  rw [if_pos h0, if_pos h1]
theorem atI_cells {cells : List Int} {j : Int} (h0 : 0 ≤ j) (h1 : j < cells.length) : ∃ c, atI (cells.map inD) j = some (inD c) := by
  have hl : j.toNat < cells.length := by omega
  refine ⟨cells[j.toNat], ?_⟩
  unfold atI
  rw [List.length_map, ixN_of h0 h1, Option.bind_some, List.getElem?_map, List.getElem?_eq_getElem hl]
  rfl
theorem st_cell {cells : List Int} {t j v : Int} (h0 : 0 ≤ j) (h1 : j < cells.length) : mutP (stD cells t) [.key ("cells" : Str)] uSet [.at (.int j), .at (.int v)] = some (stD (cells.set j.toNat v) t, .at .non) := by
  show (if true = true then ((ixN (cells.map inD).length j).map fun n => (Kd.lst true, (cells.map inD).set n (.at (.int v)), D.at .non)).bind fun r => if r.1.own = true then (setP (stD cells t) [.key ("cells" : Str)] (.nd r.1 r.2.1)).map fun d' => (d', r.2.2) else none else none) = _
  rw [if_pos rfl, List.length_map, ixN_of h0 h1]
  show (if true = true then (setP (stD cells t) [.key ("cells" : Str)] (.nd (.lst true) ((cells.map inD).set j.toNat (inD v)))).map fun d' => (d', D.at .non) else none) = _
  rw [if_pos rfl, ← List.map_set]
  rfl
end Z

set_option Elab.async false
set_option linter.all false
set_option maxRecDepth 100000
set_option maxHeartbeats 4000000
/-! Z17: plain data: that it fits, that it is equal; what walks over it tell. -/
namespace Z
open PySem L2
open PySem.PyData (strOk)

/-- data of no dict, not deeper than n -/
structure Fit (n : Nat) (d : D) : Prop where
  pl : d.plain = true
  ly : d.py.canLay0 = true
  dp : d.py.depth ≤ n
theorem Fit.ok {n : Nat} {d : D} (h : Fit n d) (hn : n ≤ 64) : d.ok = true := by
  unfold D.ok SeqAt.shaped
  rw [h.pl, h.ly, decide_eq_true (Nat.le_trans h.dp hn)]
  rfl
theorem Fit.mono {n m : Nat} {d : D} (h : Fit n d) (hn : n ≤ m) : Fit m d := ⟨h.pl, h.ly, Nat.le_trans h.dp hn⟩
theorem Fit.int {n : Nat} {i : Int} : Fit n (.at (.int i)) := ⟨rfl, rfl, Nat.zero_le _⟩
theorem Fit.bl {n : Nat} {i : Bool} : Fit n (.at (.bl i)) := ⟨rfl, rfl, Nat.zero_le _⟩
theorem Fit.non {n : Nat} : Fit n (.at .non) := ⟨rfl, rfl, Nat.zero_le _⟩
theorem Fit.str {n : Nat} {x : Str} (h : strOk x = true) : Fit n (.at (.str x)) := ⟨rfl, h, Nat.zero_le _⟩
theorem fitL {n : Nat} : ∀ {xs : List D}, (∀ x ∈ xs, Fit n x) → plainL xs = true ∧ PyData.canLayAll0 (pyL xs) = true ∧ PyData.depthAll (pyL xs) ≤ n
  | [], _ => ⟨rfl, rfl, Nat.zero_le _⟩
  | x :: xs, h => by
    obtain ⟨h1, h2, h3⟩ := fitL fun y hy => h y (List.mem_cons_of_mem _ hy)
    obtain ⟨k1, k2, k3⟩ := h x List.mem_cons_self
    rw [plainL, pyL, PyData.canLayAll0, PyData.depthAll, h1, h2, k1, k2]
    exact ⟨rfl, rfl, Nat.max_le.mpr ⟨k3, h3⟩⟩
theorem Fit.tup {n : Nat} {xs : List D} (h : ∀ x ∈ xs, Fit n x) : Fit (n + 1) (.nd .tup xs) := by
  obtain ⟨h1, h2, h3⟩ := fitL h
  exact ⟨h1, h2, Nat.succ_le_succ h3⟩
theorem Fit.lst {n : Nat} {o : Bool} {xs : List D} (h : ∀ x ∈ xs, Fit n x) : Fit (n + 1) (.nd (.lst o) xs) := by
  obtain ⟨h1, h2, h3⟩ := fitL h
  exact ⟨h1, h2, Nat.succ_le_succ h3⟩
theorem Fit.all2 {n : Nat} {x y : D} (h1 : Fit n x) (h2 : Fit n y) : ∀ z ∈ [x, y], Fit n z := by
  intro z hz
  rcases List.mem_cons.mp hz with rfl | hz
  · exact h1
  · rcases List.mem_cons.mp hz with rfl | hz
    · exact h2
    · cases hz
theorem Fit.map {α : Type} {n : Nat} {f : α → D} {xs : List α} (h : ∀ x ∈ xs, Fit n (f x)) : ∀ z ∈ xs.map f, Fit n z := by
  intro z hz
  obtain ⟨x, hx, rfl⟩ := List.mem_map.mp hz
  exact h x hx
mutual
theorem py_frz : ∀ d : D, d.frz.py = d.py
  | .at a => rfl
  | .nd .tup xs => by rw [D.frz]; show PyData.tuple (pyL (frzL xs)) = PyData.tuple (pyL xs); rw [pyL_frz xs]
  | .nd (.lst o) xs => by rw [D.frz]; show PyData.list (pyL (frzL xs)) = PyData.list (pyL xs); rw [pyL_frz xs]
  | .nd .scr xs => by rw [D.frz]; rfl
  | .nd .tpn xs => by rw [D.frz]; rfl
  | .nd (.fn x) xs => by rw [D.frz]; rfl
  | .nd (.exc c ns) xs => by rw [D.frz]; rfl
  | .nd (.dw _) xs => by rw [D.frz]; rfl
  | .nd (.dk _ _) xs => by rw [D.frz]; rfl
  | .nd (.dn _ _) xs => by rw [D.frz]; rfl
  | .nd (.ins _ _ _) xs => by rw [D.frz]; rfl
  | .nd (.dl _ _) xs => by rw [D.frz]; rfl
theorem pyL_frz : ∀ xs : List D, pyL (frzL xs) = pyL xs
  | [] => rfl
  | x :: xs => by rw [frzL, pyL, pyL, py_frz x, pyL_frz xs]
end
mutual
theorem plain_frz : ∀ d : D, d.frz.plain = d.plain
  | .at a => rfl
  | .nd .tup xs => by rw [D.frz]; show plainL (frzL xs) = plainL xs; rw [plainL_frz xs]
  | .nd (.lst o) xs => by rw [D.frz]; show plainL (frzL xs) = plainL xs; rw [plainL_frz xs]
  | .nd .scr xs => by rw [D.frz]; rfl
  | .nd .tpn xs => by rw [D.frz]; rfl
  | .nd (.fn x) xs => by rw [D.frz]; rfl
  | .nd (.exc c ns) xs => by rw [D.frz]; rfl
  | .nd (.dw _) xs => by rw [D.frz]; rfl
  | .nd (.dk _ _) xs => by rw [D.frz]; rfl
  | .nd (.dn _ _) xs => by rw [D.frz]; rfl
  | .nd (.ins _ _ _) xs => by rw [D.frz]; rfl
  | .nd (.dl _ _) xs => by rw [D.frz]; rfl
theorem plainL_frz : ∀ xs : List D, plainL (frzL xs) = plainL xs
  | [] => rfl
  | x :: xs => by rw [frzL, plainL, plainL, plain_frz x, plainL_frz xs]
end
theorem Fit.frz {n : Nat} {d : D} (h : Fit n d) : Fit n d.frz := ⟨by rw [plain_frz]; exact h.pl, by rw [py_frz]; exact h.ly, by rw [py_frz]; exact h.dp⟩
/-- equal data -/
theorem eqD_py {x y : D} (h : x.py = y.py) (k : x.py.canLay0 = true) : eqD x y = true := by
  unfold eqD
  rw [← h]
  exact SeqAt.eqv_refl _ k
def eqL : List D → List D → Bool
  | [], [] => true
  | x :: xs, y :: ys => eqD x y && eqL xs ys
  | _, _ => false
theorem eqv_L : ∀ xs ys : List D, PyData.eqvAll (pyL xs) (pyL ys) = eqL xs ys
  | [], [] => rfl
  | [], _ :: _ => rfl
  | _ :: _, [] => rfl
  | x :: xs, y :: ys => by
    rw [pyL, pyL, PyData.eqvAll, eqv_L xs ys]
    rfl
theorem eqD_tup {xs ys : List D} : eqD (.nd .tup xs) (.nd .tup ys) = eqL xs ys := by
  rw [← eqv_L]
  rfl
theorem eqD_lst {o o' : Bool} {xs ys : List D} : eqD (.nd (.lst o) xs) (.nd (.lst o') ys) = eqL xs ys := by
  rw [← eqv_L]
  rfl
theorem eqL_map {α : Type} [DecidableEq α] {f g : α → D} : ∀ {xs ys : List α}, (∀ x ∈ xs, ∀ y ∈ ys, eqD (f x) (g y) = decide (x = y)) → eqL (xs.map f) (ys.map g) = decide (xs = ys)
  | [], [], _ => rfl
  | [], _ :: _, _ => by simp [eqL]
  | _ :: _, [], _ => by simp [eqL]
  | x :: xs, y :: ys, h => by
    rw [List.map_cons, List.map_cons, eqL, h x List.mem_cons_self y List.mem_cons_self, eqL_map fun a ha b hb => h a (List.mem_cons_of_mem _ ha) b (List.mem_cons_of_mem _ hb)]
    by_cases e : x = y <;> by_cases e2 : xs = ys <;> simp [e, e2]
theorem eqL_inD {xs ys : List Int} : eqL (xs.map inD) (ys.map inD) = decide (xs = ys) := eqL_map fun x _ y _ => eqD_int
theorem eqD_str {x y : Str} : eqD (.at (.str x)) (.at (.str y)) = (x == y) := rfl
/-- data of no bool -/
inductive Dat : Nat → D → Prop
  | non {n : Nat} : Dat n (.at .non)
  | int {n : Nat} (i : Int) : Dat n (.at (.int i))
  | str {n : Nat} (x : Str) (h : strOk x = true) : Dat n (.at (.str x))
  | tup {n : Nat} {xs : List D} (h : ∀ x ∈ xs, Dat n x) (hl : xs.length ≤ 1000000) : Dat (n + 1) (.nd .tup xs)
  | lst {n : Nat} {o : Bool} {xs : List D} (h : ∀ x ∈ xs, Dat n x) (hl : xs.length ≤ 1000000) : Dat (n + 1) (.nd (.lst o) xs)
theorem frzL_length (xs : List D) : (frzL xs).length = xs.length := by rw [frzL_map, List.length_map]
theorem Dat.frz : ∀ {n : Nat} {d : D}, Dat n d → Dat n d.frz
  | _, _, .non => .non
  | _, _, .int i => .int i
  | _, _, .str x h => .str x h
  | _, _, .tup h hl => by
    rw [D.frz]
    refine .tup (fun x hx => ?_) (by rw [frzL_length]; exact hl)
    rw [frzL_map] at hx
    obtain ⟨y, hy, rfl⟩ := List.mem_map.mp hx
    exact (h y hy).frz
  | _, _, .lst h hl => by
    rw [D.frz]
    refine .lst (fun x hx => ?_) (by rw [frzL_length]; exact hl)
    rw [frzL_map] at hx
    obtain ⟨y, hy, rfl⟩ := List.mem_map.mp hx
    exact (h y hy).frz
mutual
theorem frz_frz : ∀ d : D, d.frz.frz = d.frz
  | d => frz_pure _ (pure_frz d)
end
theorem frzL_frzL (xs : List D) : frzL (frzL xs) = frzL xs := frzL_pure _ (pureL_frz xs)
theorem pureL_of {xs : List D} (h : ∀ x ∈ xs, x.pure = true) : pureL xs = true := by rw [pureL_all, List.all_eq_true]; exact h
theorem pureL_map {α : Type} {f : α → D} {xs : List α} (h : ∀ x ∈ xs, (f x).pure = true) : pureL (xs.map f) = true := pureL_of fun z hz => by
  obtain ⟨x, hx, rfl⟩ := List.mem_map.mp hz
  exact h x hx
theorem frzL_map_of {α : Type} {f : α → D} {xs : List α} (h : ∀ x ∈ xs, (f x).pure = true) : frzL (xs.map f) = xs.map f := frzL_pure _ (pureL_map h)

/-! ### rules for goals -/
section
variable {x y d : D} {xs ys : List D} {Q : D → Prop}
theorem o_eqT {n m : Nat} (hx : Fit n x) (hy : Fit m y) (hn : n ≤ 64) (hm : m ≤ 64) (e : x.py = y.py) (k : Q (.at (.bl true))) : opt (gEq [x, y]) Q := o_eq (hx.ok hn) (hy.ok hm) (by rw [eqD_py e hx.ly]; exact k)
theorem o_eqF {n m : Nat} (hx : Fit n x) (hy : Fit m y) (hn : n ≤ 64) (hm : m ≤ 64) {b : Bool} (e : eqD x y = b) (k : Q (.at (.bl b))) : opt (gEq [x, y]) Q := o_eq (hx.ok hn) (hy.ok hm) (by rw [e]; exact k)
def cutN {α : Type} (xs : List α) (lo hi : Option Int) : List α := (xs.drop (HT.sIx xs.length 0 lo)).take (HT.sIx xs.length xs.length hi - HT.sIx xs.length 0 lo)
theorem cutD_map {α : Type} {f : α → D} {zs : List α} {lo hi : Option Int} : cutD (zs.map f) lo hi = (cutN zs lo hi).map f := by
  unfold cutD cutN
  rw [List.length_map, List.map_take, List.map_drop]
theorem o_slS {ns : List Int} {lo hi : Option Int} (k : Q (.nd (.lst true) ((cutN ns lo hi).map inD))) : opt (one1 (gSl lo hi) [scD ns]) Q := by
  refine opt_of (b := .nd (.lst true) (cutD (ns.map inD) lo hi)) ?_ (by rw [cutD_map]; exact k)
  show (if pureL (ns.map inD) = true then some _ else none) = _
  rw [if_pos (pureL_inD ns)]
theorem o_listOf {o : Bool} (h : pureL xs = true) (k : Q (.nd (.lst true) xs)) : opt (one1 gListOf [.nd (.lst o) xs]) Q := opt_of (if_pos h) k
theorem o_cat {o o' : Bool} (h1 : pureL xs = true) (h2 : pureL ys = true) (h3 : xs.length + ys.length ≤ sizeLine) (k : Q (.nd (.lst true) (xs ++ ys))) : opt (gAdd [.nd (.lst o) xs, .nd (.lst o') ys]) Q := opt_of (if_pos ⟨h1, h2, h3⟩) k
theorem allSome_map {α β : Type} {f : α → D} {g : D → Option β} {h : α → β} : ∀ {zs : List α}, (∀ z ∈ zs, g (f z) = some (h z)) → allSome g (zs.map f) = some (zs.map h)
  | [], _ => rfl
  | z :: zs, hz => by
    rw [List.map_cons, allSome, hz z List.mem_cons_self, Option.bind_some, allSome_map fun y hy => hz y (List.mem_cons_of_mem _ hy)]
    rfl
theorem o_isi {T : String} {b : Bool} (h : gIsi T x = some (.at (.bl b))) (k : Q (.at (.bl b))) : opt (one1 (gIsi T) [x]) Q := opt_of h k
end
theorem rangeD_get {lo hi : Int} {i : Nat} {x : D} (h : (rangeD lo hi)[i]? = some x) : x = .at (.int (lo + i)) ∧ (i : Int) < hi - lo := by
  unfold rangeD at h
  rw [List.getElem?_map] at h
  obtain ⟨k, h1, rfl⟩ := Option.map_eq_some_iff.mp h
  obtain ⟨h2, h3⟩ := List.getElem?_eq_some_iff.mp h1
  rw [List.length_range] at h2
  rw [List.getElem_range] at h3
  subst h3
  exact ⟨rfl, by omega⟩
theorem rangeD_len {lo hi : Int} : (rangeD lo hi).length = (hi - lo).toNat := by
  unfold rangeD
  rw [List.length_map, List.length_range]
/-- all of a list by one fact -/
theorem map_get {α : Type} {f : α → D} {xs : List α} {i : Nat} {x : D} (h : (xs.map f)[i]? = some x) : ∃ z, xs[i]? = some z ∧ x = f z := by
  rw [List.getElem?_map] at h
  obtain ⟨z, h1, rfl⟩ := Option.map_eq_some_iff.mp h
  exact ⟨z, h1, rfl⟩
theorem take_succ_get {α : Type} {xs : List α} {i : Nat} {x : α} (h : xs[i]? = some x) : xs.take (i + 1) = xs.take i ++ [x] := by
  rw [List.take_succ, h]
  rfl
theorem isi_non_dict : gIsi "dict" (D.at .non) = some (.at (.bl false)) := rfl
theorem isi_non_list : gIsi "list" (D.at .non) = some (.at (.bl false)) := rfl
theorem isi_non_tuple : gIsi "tuple" (D.at .non) = some (.at (.bl false)) := rfl
theorem isi_non_str : gIsi "str" (D.at .non) = some (.at (.bl false)) := rfl
theorem isi_non_int : gIsi "int" (D.at .non) = some (.at (.bl false)) := rfl
theorem isi_non_bool : gIsi "bool" (D.at .non) = some (.at (.bl false)) := rfl
theorem isi_bl_dict {b : Bool} : gIsi "dict" (D.at (.bl b)) = some (.at (.bl false)) := rfl
theorem isi_bl_list {b : Bool} : gIsi "list" (D.at (.bl b)) = some (.at (.bl false)) := rfl
theorem isi_bl_tuple {b : Bool} : gIsi "tuple" (D.at (.bl b)) = some (.at (.bl false)) := rfl
theorem isi_bl_str {b : Bool} : gIsi "str" (D.at (.bl b)) = some (.at (.bl false)) := rfl
theorem isi_bl_int {b : Bool} : gIsi "int" (D.at (.bl b)) = some (.at (.bl true)) := rfl
theorem isi_bl_bool {b : Bool} : gIsi "bool" (D.at (.bl b)) = some (.at (.bl true)) := rfl
theorem isi_int_dict {i : Int} : gIsi "dict" (D.at (.int i)) = some (.at (.bl false)) := rfl
theorem isi_int_list {i : Int} : gIsi "list" (D.at (.int i)) = some (.at (.bl false)) := rfl
theorem isi_int_tuple {i : Int} : gIsi "tuple" (D.at (.int i)) = some (.at (.bl false)) := rfl
theorem isi_int_str {i : Int} : gIsi "str" (D.at (.int i)) = some (.at (.bl false)) := rfl
theorem isi_int_int {i : Int} : gIsi "int" (D.at (.int i)) = some (.at (.bl true)) := rfl
theorem isi_int_bool {i : Int} : gIsi "bool" (D.at (.int i)) = some (.at (.bl false)) := rfl
theorem isi_str_dict {x : Str} : gIsi "dict" (D.at (.str x)) = some (.at (.bl false)) := rfl
theorem isi_str_list {x : Str} : gIsi "list" (D.at (.str x)) = some (.at (.bl false)) := rfl
theorem isi_str_tuple {x : Str} : gIsi "tuple" (D.at (.str x)) = some (.at (.bl false)) := rfl
theorem isi_str_str {x : Str} : gIsi "str" (D.at (.str x)) = some (.at (.bl true)) := rfl
theorem isi_str_int {x : Str} : gIsi "int" (D.at (.str x)) = some (.at (.bl false)) := rfl
theorem isi_str_bool {x : Str} : gIsi "bool" (D.at (.str x)) = some (.at (.bl false)) := rfl
theorem isi_tup_dict {xs : List D} : gIsi "dict" (D.nd .tup xs) = some (.at (.bl false)) := rfl
theorem isi_tup_list {xs : List D} : gIsi "list" (D.nd .tup xs) = some (.at (.bl false)) := rfl
theorem isi_tup_tuple {xs : List D} : gIsi "tuple" (D.nd .tup xs) = some (.at (.bl true)) := rfl
theorem isi_tup_str {xs : List D} : gIsi "str" (D.nd .tup xs) = some (.at (.bl false)) := rfl
theorem isi_tup_int {xs : List D} : gIsi "int" (D.nd .tup xs) = some (.at (.bl false)) := rfl
theorem isi_tup_bool {xs : List D} : gIsi "bool" (D.nd .tup xs) = some (.at (.bl false)) := rfl
theorem isi_lst_dict {o : Bool} {xs : List D} : gIsi "dict" (D.nd (.lst o) xs) = some (.at (.bl false)) := rfl
theorem isi_lst_list {o : Bool} {xs : List D} : gIsi "list" (D.nd (.lst o) xs) = some (.at (.bl true)) := rfl
theorem isi_lst_tuple {o : Bool} {xs : List D} : gIsi "tuple" (D.nd (.lst o) xs) = some (.at (.bl false)) := rfl
theorem isi_lst_str {o : Bool} {xs : List D} : gIsi "str" (D.nd (.lst o) xs) = some (.at (.bl false)) := rfl
theorem isi_lst_int {o : Bool} {xs : List D} : gIsi "int" (D.nd (.lst o) xs) = some (.at (.bl false)) := rfl
theorem isi_lst_bool {o : Bool} {xs : List D} : gIsi "bool" (D.nd (.lst o) xs) = some (.at (.bl false)) := rfl
theorem isi_dk_dict {o : Bool} {ks : List L2.Key} {xs : List D} : gIsi "dict" (D.nd (.dk o ks) xs) = some (.at (.bl true)) := rfl
theorem isi_dk_list {o : Bool} {ks : List L2.Key} {xs : List D} : gIsi "list" (D.nd (.dk o ks) xs) = some (.at (.bl false)) := rfl
theorem isi_dk_tuple {o : Bool} {ks : List L2.Key} {xs : List D} : gIsi "tuple" (D.nd (.dk o ks) xs) = some (.at (.bl false)) := rfl
theorem isi_dk_str {o : Bool} {ks : List L2.Key} {xs : List D} : gIsi "str" (D.nd (.dk o ks) xs) = some (.at (.bl false)) := rfl
theorem isi_dk_int {o : Bool} {ks : List L2.Key} {xs : List D} : gIsi "int" (D.nd (.dk o ks) xs) = some (.at (.bl false)) := rfl
theorem isi_dk_bool {o : Bool} {ks : List L2.Key} {xs : List D} : gIsi "bool" (D.nd (.dk o ks) xs) = some (.at (.bl false)) := rfl
theorem size_1000 {n : Nat} (h : n ≤ 1000) : n ≤ sizeLine := Nat.le_trans h (by decide)
theorem len_ok {ds : List D} {P : Prop} (h : Nat.ble ds.length 1000 = true) (k : P) : ds.length ≤ sizeLine ∧ P := ⟨size_1000 (Nat.le_of_ble_eq_true h), k⟩
theorem and_len {ρ : Env} {n : Nat} {P : Prop} (h : ρ.length = n) (k : P) : ρ.length = n ∧ P := ⟨h, k⟩
theorem inR62_of {j : Int} (h : -(2 ^ 62) ≤ j ∧ j < 2 ^ 62) : inR62 j = true := decide_eq_true h
theorem and_r62 {j : Int} {P : Prop} (h : -(2 ^ 62) ≤ j ∧ j < 2 ^ 62) (k : P) : inR62 j = true ∧ P := ⟨inR62_of h, k⟩
theorem and_r622 {i j : Int} {P : Prop} (h1 : -(2 ^ 62) ≤ i ∧ i < 2 ^ 62) (h : -(2 ^ 62) ≤ j ∧ j < 2 ^ 62) (k : P) : (inR62 i = true ∧ inR62 j = true) ∧ P := ⟨⟨inR62_of h1, inR62_of h⟩, k⟩
theorem set_ne_nil {α : Type} {xs : List α} {i : Nat} {x : α} (h : xs ≠ []) : xs.set i x ≠ [] := fun e => h (by
  have := congrArg List.length e
  rw [List.length_set] at this
  exact List.length_eq_zero_iff.mp this)
theorem frz_at {d : D} {a : At} (h : .at a = d.frz) : d = .at a := by
  cases d with
  | «at» b => exact h.symm
  | nd k xs => rw [D.frz] at h; cases h
theorem frz_tup {d : D} {xs : List D} (h : .nd .tup xs = d.frz) : ∃ ys, d = .nd .tup ys ∧ frzL ys = xs := by
  cases d with
  | «at» b => rw [D.frz] at h; cases h
  | nd k ys =>
    rw [D.frz] at h
    cases k <;> cases h
    exact ⟨ys, rfl, rfl⟩
theorem frz_lst {d : D} {o : Bool} {xs : List D} (h : .nd (.lst o) xs = d.frz) : ∃ o' ys, d = .nd (.lst o') ys ∧ frzL ys = xs := by
  cases d with
  | «at» b => rw [D.frz] at h; cases h
  | nd k ys =>
    rw [D.frz] at h
    cases k <;> cases h
    exact ⟨_, ys, rfl, rfl⟩
theorem allSome_true : ∀ {xs : List D}, (∀ x ∈ xs, x = .at (.bl true)) → ∃ bs, allSome asBl xs = some bs ∧ bs.all id = true
  | [], _ => ⟨[], rfl, rfl⟩
  | x :: xs, h => by
    obtain ⟨bs, h1, h2⟩ := allSome_true fun y hy => h y (List.mem_cons_of_mem _ hy)
    refine ⟨true :: bs, ?_, ?_⟩
    · rw [h x List.mem_cons_self, allSome, h1]
      rfl
    · rw [List.all_cons, h2]
      rfl
theorem o_allT {o : Bool} {xs : List D} {Q : D → Prop} (h : ∀ x ∈ xs, x = .at (.bl true)) (k : Q (.at (.bl true))) : opt (one1 gAll [.nd (.lst o) xs]) Q := by
  obtain ⟨bs, h1, h2⟩ := allSome_true h
  refine opt_of (b := .at (.bl (bs.all id))) ?_ (by rw [h2]; exact k)
  show ((allSome asBl xs).map fun ns => D.at (.bl (ns.all id))) = _
  rw [h1]
  rfl
theorem var_frzT {ρ ρ1 : Env} {i : Nat} {xs : List D} {Q : D → Env → Prop} (h : ρ[i]? = some (some (.nd .tup xs))) (s : ρ.set i (some (.nd .tup (frzL xs))) = ρ1) (k : Q (.nd .tup (frzL xs)) ρ1) : wp (eVar i) ρ Q := var_frz h s k
theorem var_frzL {ρ ρ1 : Env} {i : Nat} {o : Bool} {xs : List D} {Q : D → Env → Prop} (h : ρ[i]? = some (some (.nd (.lst o) xs))) (s : ρ.set i (some (.nd (.lst false) (frzL xs))) = ρ1) (k : Q (.nd (.lst false) (frzL xs)) ρ1) : wp (eVar i) ρ Q := var_frz h s k
theorem frzL_mem {xs : List D} {x : D} {i : Nat} (h : (frzL xs)[i]? = some x) : ∃ y ∈ xs, x = y.frz := by
  rw [frzL_map, List.getElem?_map] at h
  obtain ⟨y, h1, rfl⟩ := Option.map_eq_some_iff.mp h
  exact ⟨y, List.mem_of_getElem? h1, rfl⟩
theorem size_m {n : Nat} (h : n ≤ 1000000) : n < sizeLine := Nat.lt_of_le_of_lt h (by decide)
theorem and_size {P : Prop} {n : Nat} {ρ : Env} {m : Nat} (h : n ≤ 1000000) (h2 : ρ.length = m) (k : P) : (n < sizeLine ∧ ρ.length = m) ∧ P := ⟨⟨size_m h, h2⟩, k⟩
theorem wp_evTn {ρ : Env} {Q : Bool → Env → Prop} : wp (evT none) ρ Q ↔ Q true ρ := Iff.rfl
theorem wp_evTs {ρ : Env} {t : TF} {Q : Bool → Env → Prop} : wp (evT (some t)) ρ Q ↔ wp t ρ Q := Iff.rfl
end Z

set_option Elab.async false
set_option linter.all false
set_option maxRecDepth 100000
set_option maxHeartbeats 4000000
/-! Z18: rules for goals that take several steps at once. -/
namespace Z
open PySem L2
section
variable {g : List D → Option D} {ρ ρ1 : Env} {Q : D → Env → Prop} {i j : Nat} {a b c d : D} {f f2 : EF}
theorem zop_p (h : ρ[i]? = some (some a)) (k : opt (g [a]) fun d => Q d ρ) : wp (zOps g [.p i]) ρ Q :=
  wp_zOps.mpr (wp_evO_p.mpr (got_of h (opt_fill (ds := [a]) (by rw [fillO, h]; rfl) k)))
theorem zop_v (k : wp f ρ fun a ρ' => opt (g [a]) fun d => Q d ρ') : wp (zOps g [.v f]) ρ Q :=
  wp_zOps.mpr (wp_evO_v.mpr (wp_mono k fun a ρ' z => opt_fill (ds := [a]) rfl z))
theorem zop_c (k : opt (g [c]) fun d => Q d ρ) : wp (zOps g [.v (eC c)]) ρ Q := zop_v k
theorem zop_pp (h : ρ[i]? = some (some a)) (h2 : ρ[j]? = some (some b)) (k : opt (g [a, b]) fun d => Q d ρ) : wp (zOps g [.p i, .p j]) ρ Q :=
  wp_zOps.mpr (wp_evO_p.mpr (got_of h (wp_evO_p.mpr (got_of h2 (opt_fill (ds := [a, b]) (by rw [fillO, h]; show Option.map _ (fillO [.inr j] ρ) = _; rw [fillO, h2]; rfl) k)))))
theorem zop_pv (h : ρ[i]? = some (some a)) (k : wp f ρ fun b ρ' => got ρ'[i]? fun a => opt (g [a, b]) fun d => Q d ρ') : wp (zOps g [.p i, .v f]) ρ Q :=
  wp_zOps.mpr (wp_evO_p.mpr (got_of h (wp_evO_v.mpr (wp_mono k fun b ρ' z => by
    show opt ((fillO [.inr i, .inl b] ρ').bind g) fun d => Q d ρ'
    unfold got at z
    split at z
    · rename_i a e
      exact opt_fill (ds := [a, b]) (by rw [fillO, e]; rfl) z
    · exact z.elim))))
theorem zop_pc (h : ρ[i]? = some (some a)) (k : opt (g [a, c]) fun d => Q d ρ) : wp (zOps g [.p i, .v (eC c)]) ρ Q := zop_pv h (got_of h k)
theorem zop_vp (k : wp f ρ fun a ρ' => got ρ'[j]? fun b => opt (g [a, b]) fun d => Q d ρ') : wp (zOps g [.v f, .p j]) ρ Q :=
  wp_zOps.mpr (wp_evO_v.mpr (wp_mono k fun a ρ' z => wp_evO_p.mpr (by
    unfold got at z ⊢
    cases e : ρ'[j]? with
    | none => rw [e] at z; exact z.elim
    | some o =>
      rw [e] at z
      cases o with
      | none => exact z.elim
      | some b =>
        show opt ((fillO [.inl a, .inr j] ρ').bind g) fun d => Q d ρ'
        exact opt_fill (ds := [a, b]) (by rw [fillO]; show Option.map _ (fillO [.inr j] ρ') = _; rw [fillO, e]; rfl) z)))
theorem zop_vv (k : wp f ρ fun a ρ1 => wp f2 ρ1 fun b ρ' => opt (g [a, b]) fun d => Q d ρ') : wp (zOps g [.v f, .v f2]) ρ Q :=
  wp_zOps.mpr (wp_evO_v.mpr (wp_mono k fun a ρ1 z => wp_evO_v.mpr (wp_mono z fun b ρ' z => opt_fill (ds := [a, b]) rfl z)))
theorem zop_vc (k : wp f ρ fun a ρ1 => opt (g [a, c]) fun d => Q d ρ1) : wp (zOps g [.v f, .v (eC c)]) ρ Q := zop_vv k
theorem zop_cv (k : wp f ρ fun a ρ1 => opt (g [c, a]) fun d => Q d ρ1) : wp (zOps g [.v (eC c), .v f]) ρ Q := zop_vv k
theorem zop_cp (h : ρ[j]? = some (some b)) (k : opt (g [c, b]) fun d => Q d ρ) : wp (zOps g [.v (eC c), .p j]) ρ Q := zop_vp (f := eC c) (got_of h k)
def cal (φ : Fn) (r : List (D ⊕ Nat)) (ρ : Env) (Q : D → Env → Prop) : Prop := opt (lendO r ρ) fun q => sat φ q.1 fun d bk => Q d (giveO r bk q.2)
theorem wp_zCallG {φ : Fn} {os : List Opd} : wp (zCall φ os) ρ Q ↔ wp (evO os) ρ fun r ρ1 => cal φ r ρ1 Q := wp_zCall
theorem callG_of {φ : Fn} {ds : List D} {r : List (D ⊕ Nat)} (h : lendO r ρ = some (ds, ρ1)) (k : sat φ ds fun d bk => ∀ ρ', giveO r bk ρ1 = ρ' → Q d ρ') : cal φ r ρ Q :=
  call_of h (sat_mono k fun d bk z => z _ rfl)
theorem give_of {r : List (D ⊕ Nat)} {bk : Env} {P : Env → Prop} (h : giveO r bk ρ = ρ1) (k : P ρ1) : ∀ ρ', giveO r bk ρ = ρ' → P ρ' := fun ρ' e => by rw [← e, h]; exact k
theorem o_pick {Q : D → Prop} {o b : Bool} {x y : D} (hx : x.pure = true) (hy : y.pure = true) (k1 : b = true → Q y) (k0 : b = false → Q x) : opt (gIx [.nd (.lst o) [x, y], .at (.int (if b = true then 1 else 0))]) Q := by
  cases b with
  | true => exact o_ixI (d := y) rfl hy (k1 rfl)
  | false => exact o_ixI (d := x) rfl hx (k0 rfl)
theorem o_pickI {Q : D → Prop} {o b : Bool} {i j : Int} {P : Int → Prop} (hx : P i) (hy : P j) (k : ∀ m, P m → Q (.at (.int m))) : opt (gIx [.nd (.lst o) [.at (.int i), .at (.int j)], .at (.int (if b = true then 1 else 0))]) Q :=
  o_pick rfl rfl (fun _ => k _ hy) fun _ => k _ hx
theorem wp_zListP {Q : List D × List D → Env → Prop} (h : wp f ρ fun d ρ' => opt (asLst d) fun xs => pureL xs = true ∧ Q ([.nd (.lst false) xs], xs) ρ') : wp (zListI f) ρ Q := wp_zListI.mpr (wp_mono h fun d ρ' z => by
  unfold opt at z ⊢
  cases e : asLst d with
  | none => rw [e] at z; exact z
  | some xs =>
    rw [e] at z
    show Q ([.nd (.lst false) (frzL xs)], frzL xs) ρ'; rw [frzL_pure xs z.1]; exact z.2)
theorem wp_zTupP {Q : List D × List D → Env → Prop} (h : wp f ρ fun d ρ' => opt (asTup d) fun xs => pureL xs = true ∧ Q ([.nd .tup xs], xs) ρ') : wp (zTupI f) ρ Q := wp_zTupI.mpr (wp_mono h fun d ρ' z => by
  unfold opt at z ⊢
  cases e : asTup d with
  | none => rw [e] at z; exact z
  | some xs =>
    rw [e] at z
    show Q ([.nd .tup (frzL xs)], frzL xs) ρ'; rw [frzL_pure xs z.1]; exact z.2)
theorem var_frzP {o : Bool} {xs : List D} (h : ρ[i]? = some (some (.nd (.lst o) xs))) (p : pureL xs = true) (s : ρ.set i (some (.nd (.lst false) xs)) = ρ1) (k : Q (.nd (.lst false) xs) ρ1) : wp (eVar i) ρ Q := by
  subst s
  exact var_frzL h rfl (by rw [frzL_pure xs p]; exact k)
theorem wp_zPar2 {Q : Fl → Env → Prop} {fs : List EF} : wp (zPar [i, j] fs) ρ Q ↔ wp (evL fs) ρ fun ds ρ' => opt (tgL [tgN i, tgN j] ds ρ') (Q .nx) := wp_zPar
theorem wp_zPar3 {l : Nat} {Q : Fl → Env → Prop} {fs : List EF} : wp (zPar [i, j, l] fs) ρ Q ↔ wp (evL fs) ρ fun ds ρ' => opt (tgL [tgN i, tgN j, tgN l] ds ρ') (Q .nx) := wp_zPar
theorem and_ty {b : Bool} {P : Prop} (h : b = true) (k : P) : b = true ∧ P := ⟨h, k⟩
end
section
variable {x y : Option D} {ρ : Env}
theorem set_0 : (x :: ρ).set 0 y = y :: ρ := rfl
theorem set_1 {a0 : Option D} : (a0 :: x :: ρ).set 1 y = a0 :: y :: ρ := rfl
theorem set_2 {a0 a1 : Option D} : (a0 :: a1 :: x :: ρ).set 2 y = a0 :: a1 :: y :: ρ := rfl
theorem set_3 {a0 a1 a2 : Option D} : (a0 :: a1 :: a2 :: x :: ρ).set 3 y = a0 :: a1 :: a2 :: y :: ρ := rfl
theorem set_4 {a0 a1 a2 a3 : Option D} : (a0 :: a1 :: a2 :: a3 :: x :: ρ).set 4 y = a0 :: a1 :: a2 :: a3 :: y :: ρ := rfl
theorem set_5 {a0 a1 a2 a3 a4 : Option D} : (a0 :: a1 :: a2 :: a3 :: a4 :: x :: ρ).set 5 y = a0 :: a1 :: a2 :: a3 :: a4 :: y :: ρ := rfl
theorem set_6 {a0 a1 a2 a3 a4 a5 : Option D} : (a0 :: a1 :: a2 :: a3 :: a4 :: a5 :: x :: ρ).set 6 y = a0 :: a1 :: a2 :: a3 :: a4 :: a5 :: y :: ρ := rfl
theorem set_7 {a0 a1 a2 a3 a4 a5 a6 : Option D} : (a0 :: a1 :: a2 :: a3 :: a4 :: a5 :: a6 :: x :: ρ).set 7 y = a0 :: a1 :: a2 :: a3 :: a4 :: a5 :: a6 :: y :: ρ := rfl
theorem set_8 {a0 a1 a2 a3 a4 a5 a6 a7 : Option D} : (a0 :: a1 :: a2 :: a3 :: a4 :: a5 :: a6 :: a7 :: x :: ρ).set 8 y = a0 :: a1 :: a2 :: a3 :: a4 :: a5 :: a6 :: a7 :: y :: ρ := rfl
theorem set_9 {a0 a1 a2 a3 a4 a5 a6 a7 a8 : Option D} : (a0 :: a1 :: a2 :: a3 :: a4 :: a5 :: a6 :: a7 :: a8 :: x :: ρ).set 9 y = a0 :: a1 :: a2 :: a3 :: a4 :: a5 :: a6 :: a7 :: a8 :: y :: ρ := rfl
theorem set_10 {a0 a1 a2 a3 a4 a5 a6 a7 a8 a9 : Option D} : (a0 :: a1 :: a2 :: a3 :: a4 :: a5 :: a6 :: a7 :: a8 :: a9 :: x :: ρ).set 10 y = a0 :: a1 :: a2 :: a3 :: a4 :: a5 :: a6 :: a7 :: a8 :: a9 :: y :: ρ := rfl
theorem set_11 {a0 a1 a2 a3 a4 a5 a6 a7 a8 a9 a10 : Option D} : (a0 :: a1 :: a2 :: a3 :: a4 :: a5 :: a6 :: a7 :: a8 :: a9 :: a10 :: x :: ρ).set 11 y = a0 :: a1 :: a2 :: a3 :: a4 :: a5 :: a6 :: a7 :: a8 :: a9 :: a10 :: y :: ρ := rfl
theorem set_12 {a0 a1 a2 a3 a4 a5 a6 a7 a8 a9 a10 a11 : Option D} : (a0 :: a1 :: a2 :: a3 :: a4 :: a5 :: a6 :: a7 :: a8 :: a9 :: a10 :: a11 :: x :: ρ).set 12 y = a0 :: a1 :: a2 :: a3 :: a4 :: a5 :: a6 :: a7 :: a8 :: a9 :: a10 :: a11 :: y :: ρ := rfl
theorem set_13 {a0 a1 a2 a3 a4 a5 a6 a7 a8 a9 a10 a11 a12 : Option D} : (a0 :: a1 :: a2 :: a3 :: a4 :: a5 :: a6 :: a7 :: a8 :: a9 :: a10 :: a11 :: a12 :: x :: ρ).set 13 y = a0 :: a1 :: a2 :: a3 :: a4 :: a5 :: a6 :: a7 :: a8 :: a9 :: a10 :: a11 :: a12 :: y :: ρ := rfl
theorem set_14 {a0 a1 a2 a3 a4 a5 a6 a7 a8 a9 a10 a11 a12 a13 : Option D} : (a0 :: a1 :: a2 :: a3 :: a4 :: a5 :: a6 :: a7 :: a8 :: a9 :: a10 :: a11 :: a12 :: a13 :: x :: ρ).set 14 y = a0 :: a1 :: a2 :: a3 :: a4 :: a5 :: a6 :: a7 :: a8 :: a9 :: a10 :: a11 :: a12 :: a13 :: y :: ρ := rfl
theorem set_15 {a0 a1 a2 a3 a4 a5 a6 a7 a8 a9 a10 a11 a12 a13 a14 : Option D} : (a0 :: a1 :: a2 :: a3 :: a4 :: a5 :: a6 :: a7 :: a8 :: a9 :: a10 :: a11 :: a12 :: a13 :: a14 :: x :: ρ).set 15 y = a0 :: a1 :: a2 :: a3 :: a4 :: a5 :: a6 :: a7 :: a8 :: a9 :: a10 :: a11 :: a12 :: a13 :: a14 :: y :: ρ := rfl
theorem set_16 {a0 a1 a2 a3 a4 a5 a6 a7 a8 a9 a10 a11 a12 a13 a14 a15 : Option D} : (a0 :: a1 :: a2 :: a3 :: a4 :: a5 :: a6 :: a7 :: a8 :: a9 :: a10 :: a11 :: a12 :: a13 :: a14 :: a15 :: x :: ρ).set 16 y = a0 :: a1 :: a2 :: a3 :: a4 :: a5 :: a6 :: a7 :: a8 :: a9 :: a10 :: a11 :: a12 :: a13 :: a14 :: a15 :: y :: ρ := rfl
theorem set_17 {a0 a1 a2 a3 a4 a5 a6 a7 a8 a9 a10 a11 a12 a13 a14 a15 a16 : Option D} : (a0 :: a1 :: a2 :: a3 :: a4 :: a5 :: a6 :: a7 :: a8 :: a9 :: a10 :: a11 :: a12 :: a13 :: a14 :: a15 :: a16 :: x :: ρ).set 17 y = a0 :: a1 :: a2 :: a3 :: a4 :: a5 :: a6 :: a7 :: a8 :: a9 :: a10 :: a11 :: a12 :: a13 :: a14 :: a15 :: a16 :: y :: ρ := rfl
theorem set_18 {a0 a1 a2 a3 a4 a5 a6 a7 a8 a9 a10 a11 a12 a13 a14 a15 a16 a17 : Option D} : (a0 :: a1 :: a2 :: a3 :: a4 :: a5 :: a6 :: a7 :: a8 :: a9 :: a10 :: a11 :: a12 :: a13 :: a14 :: a15 :: a16 :: a17 :: x :: ρ).set 18 y = a0 :: a1 :: a2 :: a3 :: a4 :: a5 :: a6 :: a7 :: a8 :: a9 :: a10 :: a11 :: a12 :: a13 :: a14 :: a15 :: a16 :: a17 :: y :: ρ := rfl
theorem set_19 {a0 a1 a2 a3 a4 a5 a6 a7 a8 a9 a10 a11 a12 a13 a14 a15 a16 a17 a18 : Option D} : (a0 :: a1 :: a2 :: a3 :: a4 :: a5 :: a6 :: a7 :: a8 :: a9 :: a10 :: a11 :: a12 :: a13 :: a14 :: a15 :: a16 :: a17 :: a18 :: x :: ρ).set 19 y = a0 :: a1 :: a2 :: a3 :: a4 :: a5 :: a6 :: a7 :: a8 :: a9 :: a10 :: a11 :: a12 :: a13 :: a14 :: a15 :: a16 :: a17 :: a18 :: y :: ρ := rfl
end
end Z

set_option Elab.async false
set_option linter.all false
set_option maxRecDepth 100000
set_option maxHeartbeats 4000000
/-! Z19: the law's own def, from its function on data. -/
namespace Z
open PySem PySem.Spec PyProof.Rows L2
theorem Reps.ints {m : M} {F H : Hp} : ∀ ns : List Int, Reps m F H (ns.map V.int) (ns.map inD) []
  | [] => .nil
  | n :: ns => .cons (A := []) (.at (.int n)) (Reps.ints ns)
/-- what a law promises: True of every script -/
def spTrue (K : PySem.W.Frag) : Sp := fun vs H Q _ => ∃ (a : Addr) (ns : List Int), vs = [.ref a] ∧ SqL K H a (ns.map V.int) ∧ ∀ H', Q (.bl true) H'
theorem sp_true {m : M} {φ : Fn} (h : ∀ ns : List Int, sat φ [scD ns] fun d _ => d = .at (.bl true)) {vs : List V} {H : Hp} {Q : VK} {E : XK} (hs : spTrue m.K vs H Q E) : spZ m 1 φ vs H Q E := by
  obtain ⟨a, ns, rfl, hS, k⟩ := hs
  refine ⟨H, [scD ns], [] ++ [], rfl, Same.refl _, .cons (A := []) (.fz rfl hS (Reps.ints ns) (.inr rfl)) .nil, List.nodup_nil, fun a ha => (nomatch ha), ?_⟩
  have q := h ns
  unfold sat at q
  cases e : φ [scD ns] with
  | none => rw [e] at q; exact q.elim
  | some fr =>
    rw [e] at q
    cases fr with
    | exc _ _ => exact q.elim
    | ret d bk =>
      intro v H' F' Av Ab _ r _
      have q : d = .at (.bl true) := q
      subst q
      cases r
      exact k H'
end Z

set_option Elab.async false
set_option linter.all false
set_option maxRecDepth 100000
set_option maxHeartbeats 4000000
/-! Z20: dict(..) of pairs whose keys are tuples. -/
namespace Z
open PySem PySem.Spec PyProof.Rows L2

section
variable {X : Cx} {pins : List (Addr × Obj)} {σ : Sl} {H : Hp} {s : Shared}
def foldE (acc es : List (NestedKey × Addr × V)) : List (NestedKey × Addr × V) := es.foldl (fun a e => stE a e.1 e.2.1 e.2.2) acc
theorem foldE_pair : ∀ {es : List (NestedKey × Addr × V)} {xs : List (NestedKey × Addr × Value)} {acc : List (NestedKey × Addr × V)} {acx : List (NestedKey × Addr × Value)}, Paired REnt es xs → Paired REnt acc acx → Paired REnt (foldE acc es) (storedAllH acx xs)
  | _, _, acc, acx, .nil, r => r
  | _, _, acc, acx, .cons (a := e) (b := x) h t, r => by
    obtain ⟨h1, h2, h3⟩ := h
    have z := foldE_pair t (stE_pair r (k := e.1) (b := e.2.1) h3)
    unfold foldE storedAllH at z ⊢
    rw [List.foldl_cons, List.foldl_cons, ← h1, ← h2]
    exact z
theorem prs_of (I : Inv X pins σ H s) : ∀ {ps : List Addr} {es : List (NestedKey × Addr × V)}, Paired (fun p (e : NestedKey × Addr × V) => SqT X.K H p [.ref e.2.1, e.2.2]) ps es →
    ∃ xs : List (NestedKey × Addr × Value), Paired REnt es xs ∧ xs.length = ps.length ∧ ∀ (j : Nat) (q : NestedKey × Addr × Value), xs[j]? = some q → ∃ b, ps[j]? = some b ∧ IsTup s.heap b #[.ref q.2.1, q.2.2]
  | _, _, .nil => ⟨[], .nil, rfl, fun j q e => by simp at e⟩
  | _, _, .cons (a := p) (b := e) h t => by
    obtain ⟨xs, r, hl, hp⟩ := prs_of I t
    obtain ⟨its, rv, ht, _⟩ := I.tuple h
    obtain ⟨u1, u2, rfl, r1, r2⟩ := vals2 rv
    cases (show u1 = Value.ref e.2.1 from r1)
    refine ⟨(e.1, e.2.1, u2) :: xs, .cons ⟨rfl, rfl, r2⟩ r, by simp [hl], fun j q eq => ?_⟩
    cases j with
    | zero =>
      simp at eq
      subst eq
      exact ⟨p, rfl, ht⟩
    | succ j =>
      obtain ⟨b, e1, e2⟩ := hp j q (by simpa using eq)
      exact ⟨b, by simpa using e1, e2⟩
def rDictN (P : Program) (w : World) (K : PySem.W.Frag) : List V → Hp → VK → Prop := fun xs H Q => ∃ (a : Addr) (ps : List Addr) (es : List (NestedKey × Addr × V)), xs = [.ref a] ∧ SqL K H a (ps.map V.ref) ∧ Paired (fun p (e : NestedKey × Addr × V) => SqT K H p [.ref e.2.1, e.2.2]) ps es ∧ KOk K H es ∧
  ∀ p o, H p = none → (p == sysModules) = false → Q (.ref p) (upd H p (dnO P w p o (foldE [] es)))
theorem call_dictN (hc : X.calm = true) (hu : X.A.units + 64 < cLine) : CallR X (.type "dict") (rDictN X.prog X.w X.K) := by
  intro pins s σ H xs us Q I r q
  obtain ⟨a, ps, es, ex, hq, hp, hk, q⟩ := q
  subst ex
  obtain ⟨u, eu, rx⟩ := vals1 r
  subst eu
  cases rx
  obtain ⟨its, rv, pl, hz⟩ := I.list hq
  have ei := refs_at rv
  subst ei
  rw [List.length_map] at hz
  obtain ⟨qs, rel, hl, hpr⟩ := prs_of I hp
  obtain ⟨o, n, ho, hcl, hd, hdat⟩ := pl
  let prs : List (Value × Value) := qs.map fun q => (.ref q.2.1, q.2.2)
  have hpl : prs.length = ps.length := by rw [List.length_map, hl]
  have key : ∀ {es : List (NestedKey × Addr × V)} {qs : List (NestedKey × Addr × Value)}, Paired REnt es qs → KOk X.K H es → ∀ x ∈ qs, (nestedKind X.prog X.w).is s.heap x.1 x.2.1 := by
    intro es qs r
    induction r with
    | nil => intro _ x hx; exact nomatch hx
    | @cons p q ps qs hq t ih =>
      intro hk x hx
      rcases List.mem_cons.mp hx with e | hx
      · subst e
        obtain ⟨k1, k2⟩ := hk p List.mem_cons_self
        rw [hq.1, hq.2.1] at k1
        rw [hq.1] at k2
        exact ⟨KRep.is I k1 rfl, k2⟩
      · exact ih (fun e he => hk e (List.mem_cons_of_mem _ he)) x hx
  have hw : ∀ x ∈ qs, (nestedKind X.prog X.w).is s.heap x.1 x.2.1 := key rel hk
  refine call_dict_pairsH (knd := nestedKind X.prog X.w) (ps := qs) (PairArg.list a (ps.map Value.ref).toArray (fun j => ps.getD j 0) prs) (I.ok.hd hc) (by show X.A.units + 1 + 1 + 8 < cLine; omega) ⟨⟨o, n, ho, hcl, hd, hdat⟩, by simp [hpl], fun j k v e => ?_⟩ ⟨by rw [hpl, hl], fun i k v hrel => ?_⟩ (fun h' hk' x hx => ?_) (by rw [hpl]; exact hz) fun h' tk hd' hk' => ?_
  · obtain ⟨q', e1, e2⟩ := Option.map_eq_some_iff.mp ((List.getElem?_map (l := qs) (i := j)).symm.trans e)
    cases e2
    obtain ⟨b, b1, b2⟩ := hpr j q' e1
    refine ⟨?_, ?_⟩
    · simp [b1]
    · show PairAt s.heap (ps.getD j 0) _ _
      rw [List.getD_eq_getElem?_getD, b1]
      exact .inl b2
  · obtain ⟨q', e1, e2⟩ := Option.map_eq_some_iff.mp ((List.getElem?_map (l := qs) (i := i)).symm.trans hrel)
    cases e2
    exact ⟨q'.1, q'.2.1, e1, rfl⟩
  · exact nestedKind_stays.all h' (fun b o hb e => hk' b o (Nat.ne_of_lt (Heap.lt_size e)) (by simpa using hb) e) _ _ (hw x hx)
  · have hm : (s.heap.objs.size == sysModules) = false := beq_eq_false_iff_ne.mpr (Nat.ne_of_gt I.big)
    obtain ⟨o', z⟩ := dn_new (P := X.prog) (w := X.w) (foldE_pair rel .nil) hd'
    exact ⟨.ref s.heap.objs.size, upd H s.heap.objs.size (dnO X.prog X.w s.heap.objs.size o' (foldE [] es)), I.laid (t' := tk) (fun b o e => hk' b o (by simp) e) (Nat.le_refl _) (z _), rfl, q _ _ (I.hok.fresh (Nat.le_refl _)) hm⟩
end

/-! ### on data -/
def pairN : D → Option (NestedKey × D)
  | .nd .tup [.nd .tup ks, v] => (D.nd .tup ks).key.bind fun k => if k.depth ≤ 8 ∧ v.pure = true then some (k, v) else none
  | _ => none
def putAll (r : List NestedKey × List D) (ps : List (NestedKey × D)) : List NestedKey × List D := ps.foldl (fun a p => putD a.1 a.2 p.1 p.2) r
def gDictN : D → Option D := fun d => (lstI d).bind fun xs => (allSome pairN xs).bind fun ps => if ps.length ≤ sizeLine then some (.nd (.dn true (putAll ([], []) ps).1) (putAll ([], []) ps).2) else none
section
variable {m : M} {F H : Hp}
theorem pair_rep (sm : Same F H) {v : V} {d : D} {A : List Addr} {k : NestedKey} {x : D} (r : Rep m F H v d A) (h : pairN d = some (k, x)) : ∃ (p b : Addr) (y : V), v = .ref p ∧ SqT m.K H p [.ref b, y] ∧ KRep m.K F (.ref b) k ∧ k.depth ≤ 8 ∧ Rep m F H y x [] := by
  unfold pairN at h
  split at h
  · rename_i ks x'
    obtain ⟨k', h1, h2⟩ := Option.bind_eq_some_iff.mp h
    split at h2
    · rename_i hz
      cases h2
      obtain ⟨p, vs, B, rfl, g1, g2⟩ := rep_tup r
      cases g2 with
      | cons r1 r2 =>
        cases r2 with
        | cons r3 r4 =>
          cases r4
          obtain ⟨b, rfl⟩ := key_ref r1
          exact ⟨p, b, _, rfl, Same.sqT sm g1, r1.key h1, hz.1, r3.pureR hz.2 (Same.refl _)⟩
    · cases h2
  · cases h
theorem pairs_rep (sm : Same F H) : ∀ {vs : List V} {ds : List D} {A : List Addr} {ps : List (NestedKey × D)}, Reps m F H vs ds A → allSome pairN ds = some ps →
    ∃ (as : List Addr) (es : List (NestedKey × Addr × V)), vs = as.map V.ref ∧ Paired (fun p (e : NestedKey × Addr × V) => SqT m.K H p [.ref e.2.1, e.2.2]) as es ∧ (∀ e ∈ es, KRep m.K F (.ref e.2.1) e.1 ∧ e.1.depth ≤ 8) ∧ Paired (fun (e : NestedKey × Addr × V) (p : NestedKey × D) => e.1 = p.1 ∧ Rep m F H e.2.2 p.2 []) es ps
  | _, _, _, _, .nil, h => by
    rw [allSome] at h; cases h
    exact ⟨[], [], rfl, .nil, (fun e he => nomatch he), .nil⟩
  | _, _, _, _, .cons h1 r, h => by
    rw [allSome] at h
    obtain ⟨⟨k, x⟩, e1, e2⟩ := Option.bind_eq_some_iff.mp h
    obtain ⟨ps', e3, rfl⟩ := Option.map_eq_some_iff.mp e2
    obtain ⟨as, es, rfl, q1, q2, q3⟩ := pairs_rep sm r e3
    obtain ⟨p, b, y, rfl, k1, k2, k3, k4⟩ := pair_rep sm h1 e1
    refine ⟨p :: as, (k, b, y) :: es, rfl, .cons k1 q1, fun e he => ?_, .cons ⟨rfl, k4⟩ q3⟩
    rcases List.mem_cons.mp he with rfl | he
    · exact ⟨k2, k3⟩
    · exact q2 e he
structure Tab (m : M) (F H : Hp) (es : List (NestedKey × Addr × V)) (r : List NestedKey × List D) : Prop where
  ks : es.map (·.1) = r.1
  vs : Reps m F H (es.map (·.2.2)) r.2 []
  nd : r.1.Nodup
  kr : ∀ e ∈ es, KRep m.K F (.ref e.2.1) e.1 ∧ e.1.depth ≤ 8
theorem Tab.put {es : List (NestedKey × Addr × V)} {r : List NestedKey × List D} (t : Tab m F H es r) {k : NestedKey} {b : Addr} {v : V} {x : D} (hk : KRep m.K F (.ref b) k) (hd : k.depth ≤ 8) (hx : Rep m F H v x []) : Tab m F H (stE es k b v) (putD r.1 r.2 k x) ∧ (putD r.1 r.2 k x).1.length ≤ r.1.length + 1 := by
  obtain ⟨ks, ds⟩ := r
  obtain ⟨h1, h2, h3, h4⟩ := t
  have h1 : es.map (·.1) = ks := h1
  subst h1
  have hst := ent_ix (es := es) (k := k)
  unfold putD
  split
  · rename_i n hn
    rw [hn] at hst
    obtain ⟨A', C, r', p⟩ := Reps.setAt hx (n := n) h2
    have e1 : (stE es k b v).map (·.1) = es.map (·.1) := by
      unfold stE
      rw [hst, if_pos (Option.isSome_some (a := n)), List.map_map]
      refine List.map_congr_left fun z _ => ?_
      show (if z.1 = k then (z.1, z.2.1, v) else z).1 = z.1
      split <;> rfl
    have e2 : (stE es k b v).map (·.2.2) = (es.map (·.2.2)).set n v := by
      unfold stE
      rw [hst, if_pos (Option.isSome_some (a := n))]
      refine map_upd (fun z : NestedKey × Addr × V => z.1) (fun z => z.2.2) _ k v (fun z => ?_) h3 hn
      show (if z.1 = k then (z.1, z.2.1, v) else z).2.2 = _
      split <;> rfl
    have hA : A' = [] := by
      have := p.length_eq
      simp at this
      exact List.eq_nil_of_length_eq_zero (by omega)
    subst hA
    refine ⟨⟨e1, by rw [e2]; exact r', h3, fun z hz => ?_⟩, Nat.le_succ _⟩
    unfold stE at hz
    rw [hst, if_pos (Option.isSome_some (a := n))] at hz
    obtain ⟨z0, hz0, rfl⟩ := List.mem_map.mp hz
    have := h4 z0 hz0
    split <;> exact this
  · rename_i hn
    rw [hn] at hst
    have e0 : stE es k b v = es ++ [(k, b, v)] := by
      unfold stE
      rw [hst, if_neg (by simp)]
    refine ⟨⟨by rw [e0, List.map_append]; rfl, by rw [e0, List.map_append]; exact h2.append (.cons hx .nil), nodup_snoc h3 hn, fun z hz => ?_⟩, by simp⟩
    rw [e0] at hz
    rcases List.mem_append.mp hz with h | h
    · exact h4 z h
    · have : z = (k, b, v) := by simpa using h
      subst this
      exact ⟨hk, hd⟩
theorem Tab.all : ∀ {es : List (NestedKey × Addr × V)} {ps : List (NestedKey × D)} {acc : List (NestedKey × Addr × V)} {r : List NestedKey × List D}, Paired (fun (e : NestedKey × Addr × V) (p : NestedKey × D) => e.1 = p.1 ∧ Rep m F H e.2.2 p.2 []) es ps → (∀ e ∈ es, KRep m.K F (.ref e.2.1) e.1 ∧ e.1.depth ≤ 8) → Tab m F H acc r →
    Tab m F H (foldE acc es) (putAll r ps) ∧ (putAll r ps).1.length ≤ r.1.length + ps.length
  | [], [], acc, r, .nil, _, t => ⟨t, by simp [putAll]⟩
  | e :: es, p :: ps, acc, r, .cons h hs, hk, t => by
    obtain ⟨k1, k2⟩ := hk e List.mem_cons_self
    obtain ⟨e1, e2⟩ := h
    rw [e1] at k1 k2
    obtain ⟨t2, l2⟩ := t.put (b := e.2.1) k1 k2 e2
    obtain ⟨t3, l3⟩ := Tab.all hs (fun z hz => hk z (List.mem_cons_of_mem _ hz)) t2
    have f1 : foldE acc (e :: es) = foldE (stE acc p.1 e.2.1 e.2.2) es := by unfold foldE; rw [List.foldl_cons, e1]
    have f2 : putAll r (p :: ps) = putAll (putD r.1 r.2 p.1 p.2) ps := by unfold putAll; rw [List.foldl_cons]
    rw [f1, f2]
    refine ⟨t3, ?_⟩
    rw [List.length_cons]
    omega
theorem Yl.newDn {Q : VK} {es : List (NestedKey × Addr × V)} {ks : List NestedKey} {ds : List D} (y : Yl m F H (.nd (.dn true ks) ds) Q) (s : Same F H) (t : Tab m F H es (ks, ds)) (hl : ks.length ≤ sizeLine) : ∀ l o, H l = none → (l == sysModules) = false → Q (.ref l) (upd H l (dnO m.P m.w l o es)) := fun l o hl' hm => by
  have nf : F l = none := by
    cases q : F l with
    | none => rfl
    | some x => rw [s _ _ q] at hl'; cases hl'
  refine y (.ref l) (upd H l (dnO m.P m.w l o es)) F [l] (Same.refl _) (s.trans (updSame hl')) ?_ (by simp) (fun a ha => ?_) (fun a ha => ?_) (fun _ _ h => .inl h) (updSame hl')
  · exact .ow (ex := []) (A := []) rfl ⟨rfl, es, t.ks, rfl, ⟨_, upd_same⟩, t.kr, hm, hl, t.nd⟩ (t.vs.mono (Same.refl _) fun b hb => nomatch hb)
  · have e : a = l := by simpa using ha
    subst e; exact nf
  · have e : a = l := by simpa using ha
    subst e; exact hl'
theorem lr_dictN : LR m (rDictN m.P m.w m.K) (one1 gDictN) := by
  intro F H vs ds A d Q sm rs hg y
  replace hg := one1_of hg
  obtain ⟨x, rfl, hg⟩ := hg
  obtain ⟨v, rfl, A1, r1⟩ := reps1 rs
  unfold gDictN at hg
  obtain ⟨xs, h1, hg⟩ := Option.bind_eq_some_iff.mp hg
  obtain ⟨ps, h2, hg⟩ := Option.bind_eq_some_iff.mp hg
  split at hg
  · rename_i hz
    cases hg
    obtain ⟨a, us, B, rfl, e1, e2⟩ := rep_lstI r1 sm h1
    obtain ⟨as, es, rfl, q1, q2, q3⟩ := pairs_rep sm e2 h2
    have t0 : Tab m F H [] ([], []) := ⟨rfl, .nil, List.nodup_nil, (fun e he => nomatch he)⟩
    obtain ⟨t, l⟩ := t0.all q3 q2
    refine ⟨a, as, es, rfl, e1, q1, fun e he => ⟨KRep.mono sm (q2 e he).1, (q2 e he).2⟩, y.newDn sm t ?_⟩
    have l : (putAll ([], []) ps).1.length ≤ 0 + ps.length := l
    omega
  · cases hg
end
section
variable {X : Cx} {W : WX} {a : Expr} {o : Opd} {p : Bool} {q1 pos : Pos}
theorem ze_dictN (hc : X.calm = true) (hu : X.A.units + 64 < cLine) (hg : Gl X "dict") (hm : X.mg "dict" = none) (ha : ZO X W p a o) (he : starEach [a] X.env = (false, eval a X.env) :: starEach [] X.env := by rfl) (hpl : (backTo pos (starEach [] X.env)).any (·.1) = false := by rfl) : ZE X W (p && true) (.Call (.Name "dict" q1) [a] [] pos) (zOps (one1 gDictN) [o]) :=
  ze_callTy (ps := [(p, o)]) (call_dictN hc hu) lr_dictN hg hm (by decide +kernel) (zos_cons ha zos_nil he) (by decide) (by decide) he hpl
end
end Z

set_option Elab.async false
set_option linter.all false
set_option maxRecDepth 100000
set_option maxHeartbeats 4000000
/-! Z21: three names at once; extend, reverse, pop; sorted of ints; while on data. -/
namespace Z
open PySem PySem.Spec PyProof.Rows L2

section
variable {X : Cx} {W : WX} {kp : List Nat} {st : Stmt}
theorem tgL3 {i j l : Nat} {ds : List D} {ρ ρ' : Env} (h : tgL [tgN i, tgN j, tgN l] ds ρ = some ρ') : ∃ d1 d2 d3, ds = [d1, d2, d3] ∧ i < ρ.length ∧ j < ρ.length ∧ l < ρ.length ∧ ρ' = ((ρ.set i (some d1)).set j (some d2)).set l (some d3) := by
  match ds, h with
  | [], h => cases h
  | d1 :: ds, h =>
    have h : ((tgN i d1 ρ).bind fun r => tgL [tgN j, tgN l] ds r) = some ρ' := h
    obtain ⟨r1, e1, h⟩ := Option.bind_eq_some_iff.mp h
    obtain ⟨h1, rfl⟩ := tgN_of e1
    match ds, h with
    | [], h => cases h
    | d2 :: ds, h =>
      have h : ((tgN j d2 (ρ.set i (some d1))).bind fun r => tgL [tgN l] ds r) = some ρ' := h
      obtain ⟨r2, e2, h⟩ := Option.bind_eq_some_iff.mp h
      obtain ⟨h2, rfl⟩ := tgN_of e2
      match ds, h with
      | [], h => cases h
      | d3 :: ds, h =>
        have h : ((tgN l d3 ((ρ.set i (some d1)).set j (some d2))).bind fun r => tgL [] ds r) = some ρ' := h
        obtain ⟨r3, e3, h⟩ := Option.bind_eq_some_iff.mp h
        obtain ⟨h3, rfl⟩ := tgN_of e3
        match ds, h with
        | [], h =>
          have h : some (((ρ.set i (some d1)).set j (some d2)).set l (some d3)) = some ρ' := h
          cases h
          rw [List.length_set] at h2
          rw [List.length_set, List.length_set] at h3
          exact ⟨d1, d2, d3, rfl, h1, h2, h3, rfl⟩
        | _ :: _, h => cases h
theorem zs_par3 {i j l : Nat} {pos : List (Bool × Opd)} {fs : List EF} (h : PS X st (tPar3 i j l (tOs (mOf X) W pos))) (e : pos.map (·.2) = fs.map Opd.v := by rfl) (hi : i ∉ kp := by decide) (hj : j ∉ kp := by decide) (hl : l ∉ kp := by decide) : ZSt X W kp st (zPar [i, j, l] fs) :=
  psImp h fun E σ H ⟨c, ρ, T, tv, k, s, q⟩ => by
    refine tLs_run e s ?_
    unfold zPar at q
    cases e2 : evL fs ρ with
    | stuck => rw [e2] at q; exact q
    | ex x ρ1 => rw [e2] at q; exact fun cls dx H' z s' => q cls dx σ H' z s'
    | ok ds ρ1 =>
      rw [e2] at q
      intro vs H' s' hlen _
      have q : SPost (mOf X) W c T tv E (match tgL [tgN i, tgN j, tgN l] ds ρ1 with
        | some r => R.ok Fl.nx r
        | none => R.stuck) := q
      cases e3 : tgL [tgN i, tgN j, tgN l] ds ρ1 with
      | none => rw [e3] at q; exact q.elim
      | some r =>
        rw [e3] at q
        obtain ⟨d1, d2, d3, rfl, h1, h2, h3, rfl⟩ := tgL3 e3
        match vs, hlen, s' with
        | [v1, v2, v3], _, s' =>
          refine ⟨v1, v2, v3, rfl, ?_⟩
          have z1 := ZS.store (i := i) (T := d2 :: d3 :: T) (tv := v2 :: v3 :: tv) s' h1 fun p hp e => hi (e ▸ k p hp)
          have z2 := ZS.store (i := j) (T := d3 :: T) (tv := v3 :: tv) z1 (by rw [List.length_set]; exact h2) fun p hp e => hj (e ▸ k p hp)
          exact q _ _ (ZS.store (i := l) z2 (by rw [List.length_set, List.length_set]; exact h3) fun p hp e => hl (e ▸ k p hp))
        | [], h, _ => simp at h
        | [_], h, _ => simp at h
        | [_, _], h, _ => simp at h
        | _ :: _ :: _ :: _ :: _, h, _ => simp at h
end

/-! ### more of lists -/
def uExtend : MutF := fun k ds es => match k, es with
  | .lst o, [.nd (.lst _) ys] => if pureL ys = true ∧ ds.length + ys.length ≤ sizeLine then some (.lst o, ds ++ ys, .at .non) else none
  | _, _ => none
theorem lm_extend {m : M} : LM m rExtend uExtend := by
  intro F H k a vs ws ds es A1 B1 ex k' ds' res Q sm hk hO r1 r2 hu q
  unfold uExtend at hu
  split at hu
  · rename_i o o2 ys
    split at hu
    · rename_i hz
      cases hu
      obtain ⟨rfl, hO⟩ := hO
      obtain ⟨y, rfl, A2, hy⟩ := reps1 r2
      obtain ⟨b, us, B', rfl, e1, e2⟩ := rep_lst hy sm
      refine ⟨a, b, vs, us, rfl, rfl, hO, e1, by rw [r1.length, e2.length]; exact hz.2, ?_⟩
      refine q (.lst (vs ++ us)) (vs ++ us) .non (A1 ++ []) [] ⟨rfl, upd_same⟩ (r1.append (e2.pureR hz.1 (Same.refl _))) (.at .non) ⟨B1, ?_⟩
      simp only [List.append_nil]
      exact List.perm_append_comm
    · cases hu
  · cases hu
section
variable {X : Cx} {W : WX} {pos : Pos} {p1 p2 p3 : Bool} {o e : Expr} {f : EF} {apos cpos : Pos} {i : Nat} {p : List Stp}
theorem ze_extend (ho : PE X o (tPl i p)) (ha : ZE X W p1 e f) (hp : p = [] ∨ ([(p1, Opd.v f)] : List (Bool × Opd)).all (·.1) = true) (hbase : attributeBase o "extend" X.env (eval o X.env) = eval o X.env := by rfl)
    (hfew : ((backTo cpos (starEach [e] X.env)).all (fun x => !x.1) && (backToKw cpos (keywordEach [] X.env)).all (fun x => x.1.isSome)
      && decide (([e] : List Expr).length + ([] : List Keyword).length + (if ([] : List Keyword).isEmpty then 0 else 1) < 30)) = true := by rfl)
    (hline : (apos.endLine == cpos.line) = true := by rfl) (hs : starEach [e] X.env = (false, eval e X.env) :: starEach [] X.env := by rfl) (hplain : (backTo cpos (starEach [] X.env)).any (·.1) = false := by rfl) :
    ZE X W false (.Call (.Attribute o "extend" apos) [e] [] cpos) (zMut "list" i p uExtend [f]) :=
  ze_mut PySem.F.plainAttrs_list PySem.F.slot_list_extend PySem.F.type_list_extend mt_extend lm_extend ho (zos_cons (zo_val ha) zos_nil hs) rfl hp hbase hfew hline hs hplain
end

/-! ### sorted of ints -/
section
variable {X : Cx} {W : WX} {a : Expr} {o : Opd} {p : Bool} {q1 pos : Pos}
end

/-! ### while -/
end Z

set_option Elab.async false
set_option linter.all false
set_option maxRecDepth 100000
set_option maxHeartbeats 4000000
/-! Z22: cells, kinds, halls as data; more rules for goals. -/
namespace Z
open PySem L2
open PySem.PyData (strOk)

abbrev Cell := Int × Int
abbrev cellD (c : Cell) : D := .nd .tup [inD c.1, inD c.2]
structure TKind where
  w : Int
  h : Int
  way : Str
  st : Int
abbrev kindD (k : TKind) : D := .nd .tup [inD k.w, inD k.h, .at (.str k.way), inD k.st]
/-- the cells of w by h at p, column by column -/
def cov (w h : Int) (p : Cell) : List Cell := (List.range w.toNat).flatMap fun (i : Nat) => (List.range h.toNat).map fun (j : Nat) => (p.1 + (i : Int), p.2 + (j : Int))
theorem mem_cov {w h : Int} {p c : Cell} : c ∈ cov w h p ↔ p.1 ≤ c.1 ∧ c.1 < p.1 + w ∧ p.2 ≤ c.2 ∧ c.2 < p.2 + h := by
  unfold cov
  rw [List.mem_flatMap]
  constructor
  · rintro ⟨i, hi, hc⟩
    rw [List.mem_map] at hc
    obtain ⟨j, hj, rfl⟩ := hc
    rw [List.mem_range] at hi hj
    dsimp only
    omega
  · rintro ⟨h1, h2, h3, h4⟩
    refine ⟨(c.1 - p.1).toNat, List.mem_range.mpr (by omega), List.mem_map.mpr ⟨(c.2 - p.2).toNat, List.mem_range.mpr (by omega), ?_⟩⟩
    refine Prod.ext ?_ ?_
    · show p.1 + ((c.1 - p.1).toNat : Int) = c.1
      omega
    · show p.2 + ((c.2 - p.2).toNat : Int) = c.2
      omega
theorem sum_const (c : Nat) : ∀ n : Nat, ((List.range n).map fun _ => c).sum = n * c
  | 0 => by simp
  | n + 1 => by
    rw [List.range_succ, List.map_append, List.sum_append, sum_const c n]
    simp [Nat.succ_mul]
theorem cov_length {w h : Int} {p : Cell} : (cov w h p).length = w.toNat * h.toNat := by
  unfold cov
  rw [List.length_flatMap]
  simp only [List.length_map, List.length_range]
  exact sum_const _ _
theorem pure_cells (cs : List Cell) : pureL (cs.map cellD) = true := pureL_map fun _ _ => rfl
theorem pure_kinds (ks : List TKind) : pureL (ks.map kindD) = true := pureL_map fun _ _ => rfl
theorem fit_cell {n : Nat} {c : Cell} : Fit (n + 1) (cellD c) := .tup (Fit.all2 .int .int)
theorem eqD_cell {c e : Cell} : eqD (cellD c) (cellD e) = decide (c = e) := by
  rw [eqD_tup, eqL, eqL, eqL, eqD_int, eqD_int]
  obtain ⟨a, b⟩ := c
  obtain ⟨x, y⟩ := e
  by_cases h1 : a = x <;> by_cases h2 : b = y <;> simp [h1, h2]
section
variable {x y d : D} {xs ys : List D} {Q : D → Prop}
/-- an item of a list, by what holds of all -/
theorem o_ixP {o : Bool} {r : Int} (P : D → Prop) (h0 : 0 ≤ r) (h1 : r < xs.length) (hp : pureL xs = true) (hP : ∀ x ∈ xs, P x) (k : ∀ x, P x → Q x) : opt (gIx [.nd (.lst o) xs, .at (.int r)]) Q := by
  have hl : r.toNat < xs.length := by omega
  have e : atI xs r = some xs[r.toNat] := by
    unfold atI
    rw [ixN_of h0 h1, Option.bind_some, List.getElem?_eq_getElem hl]
  have m := List.getElem_mem hl
  rw [pureL_all, List.all_eq_true] at hp
  exact o_ixI e (hp _ m) (k _ (hP _ m))
theorem o_ixMT {α : Type} {f : α → D} {zs : List α} {r : Int} (h0 : 0 ≤ r) (h1 : r < zs.length) (hp : ∀ z, (f z).pure = true) (k : ∀ z ∈ zs, zs[r.toNat]? = some z → Q (f z)) : opt (gIx [.nd .tup (zs.map f), .at (.int r)]) Q := by
  have hl : r.toNat < zs.length := by omega
  refine o_ixT (d := f zs[r.toNat]) ?_ (hp _) (k _ (List.getElem_mem hl) (List.getElem?_eq_getElem hl))
  unfold atI
  rw [List.length_map, ixN_of h0 h1, Option.bind_some, List.getElem?_map, List.getElem?_eq_getElem hl]
  rfl
theorem o_minM {i j : Int} (k : Q (.at (.int (min i j)))) : opt (gMin2 [.at (.int i), .at (.int j)]) Q := by
  show Q (.at (.int (if j < i then j else i)))
  have e : (if j < i then j else i) = min i j := by split <;> omega
  rw [e]
  exact k
theorem o_maxM {i j : Int} (k : Q (.at (.int (max i j)))) : opt (gMax2 [.at (.int i), .at (.int j)]) Q := by
  show Q (.at (.int (if j > i then j else i)))
  have e : (if j > i then j else i) = max i j := by split <;> omega
  rw [e]
  exact k
theorem o_tupL {o : Bool} (h : pureL xs = true) (k : Q (.nd .tup xs)) : opt (one1 gTupOf [.nd (.lst o) xs]) Q := opt_of (if_pos h) k
theorem o_tupT (h : pureL xs = true) (k : Q (.nd .tup xs)) : opt (one1 gTupOf [.nd .tup xs]) Q := opt_of (if_pos h) k
theorem o_listT (h : pureL xs = true) (k : Q (.nd (.lst true) xs)) : opt (one1 gListOf [.nd .tup xs]) Q := opt_of (if_pos h) k
theorem cell_depth (c : Cell) : (NestedKey.tup [.num c.1, .num c.2]).depth ≤ 8 := by
  simp [NestedKey.depth, NestedKey.depthAll]
theorem mut_dnC {ks : List NestedKey} {vs : List D} {c : Cell} {e : D} (h : ks.length ≤ 100000) : mutP (.nd (.dn true ks) vs) [] uSet [cellD c, e] = some (.nd (.dn true (putD ks vs (.tup [.num c.1, .num c.2]) e).1) (putD ks vs (.tup [.num c.1, .num c.2]) e).2, .at .non) := by
  show (if true = true then ((some (NestedKey.tup [.num c.1, .num c.2])).bind fun j => if j.depth ≤ 8 ∧ ks.length < sizeLine then some (Kd.dn true (putD ks vs j e).1, (putD ks vs j e).2, D.at .non) else none).bind fun r => if r.1.own = true then (setP (.nd (.dn true ks) vs) [] (.nd r.1 r.2.1)).map fun d' => (d', r.2.2) else none else none) = _
  rw [if_pos rfl, Option.bind_some, if_pos ⟨cell_depth c, size_m (by omega)⟩]
  rfl
theorem o_lenM {α : Type} {f : α → D} {zs : List α} {o : Bool} (k : Q (.at (.int zs.length))) : opt (gLen [.nd (.lst o) (zs.map f)]) Q := by
  show Q (.at (.int (zs.map f).length))
  rw [List.length_map]
  exact k
theorem o_lenMT {α : Type} {f : α → D} {zs : List α} (k : Q (.at (.int zs.length))) : opt (gLen [.nd .tup (zs.map f)]) Q := by
  show Q (.at (.int (zs.map f).length))
  rw [List.length_map]
  exact k
end
/-- extend by something known -/
theorem ext_of {ρ ρ1 : Env} {i : Nat} {xs ys : List D} {o : Bool} {Q : Env × D → Prop} (h : ρ[i]? = some (some (.nd (.lst true) xs))) (hp : pureL ys = true) (hl : xs.length + ys.length ≤ sizeLine) (s : ρ.set i (some (.nd (.lst true) (xs ++ ys))) = ρ1) (k : Q (ρ1, .at .non)) : opt (mutE ρ i [] uExtend [.nd (.lst o) ys]) Q :=
  mut_of h (by
    show (if true = true then (if pureL ys = true ∧ xs.length + ys.length ≤ sizeLine then some (Kd.lst true, xs ++ ys, D.at .non) else none).bind fun r => if r.1.own = true then (setP (.nd (.lst true) xs) [] (.nd r.1 r.2.1)).map fun d' => (d', r.2.2) else none else none) = _
    rw [if_pos rfl, if_pos ⟨hp, hl⟩]
    rfl) s k
def Way (y : Str) : Prop := y = "any" ∨ y = "row" ∨ y = "column" ∨ y = "none"
theorem Way.ok {y : Str} (h : Way y) : strOk y = true := by
  rcases h with rfl | rfl | rfl | rfl <;> decide +kernel
end Z

set_option Elab.async false
set_option linter.all false
set_option maxRecDepth 100000
set_option maxHeartbeats 4000000
/-! Z23: dicts of cells, known in full; sets of cells. -/
namespace Z
open PySem L2
open PySem.PyData (strOk)

abbrev cellK (c : Cell) : NestedKey := .tup [.num c.1, .num c.2]
theorem cellK_inj {a b : Cell} : cellK a = cellK b ↔ a = b := by
  constructor
  · intro h
    injection h with h
    injection h with h1 h2
    injection h1 with h1
    injection h2 with h2 _
    injection h2 with h2
    exact Prod.ext h1 h2
  · rintro rfl; rfl
abbrev cdD (o : Bool) (m : List (Cell × D)) : D := .nd (.dn o (m.map fun e => cellK e.1)) (m.map fun e => e.2)
def cdGet : List (Cell × D) → Cell → Option D
  | [], _ => none
  | e :: m, c => if e.1 = c then some e.2 else cdGet m c
def cdPut : List (Cell × D) → Cell → D → List (Cell × D)
  | [], c, v => [(c, v)]
  | e :: m, c, v => if e.1 = c then (c, v) :: m else e :: cdPut m c v
theorem at_cd : ∀ {m : List (Cell × D)} {c : Cell}, atNK (m.map fun e => cellK e.1) (m.map fun e => e.2) (cellK c) = cdGet m c
  | [], c => rfl
  | e :: m, c => by
    rw [List.map_cons, List.map_cons, atNK, cdGet, at_cd (m := m)]
    by_cases h : e.1 = c
    · rw [if_pos (cellK_inj.mpr h), if_pos h]
    · rw [if_neg (fun z => h (cellK_inj.mp z)), if_neg h]
theorem put_cd : ∀ {m : List (Cell × D)} {c : Cell} {v : D}, putD (m.map fun e => cellK e.1) (m.map fun e => e.2) (cellK c) v = ((cdPut m c v).map fun e => cellK e.1, (cdPut m c v).map fun e => e.2)
  | [], c, v => rfl
  | e :: m, c, v => by
    have ih := put_cd (m := m) (c := c) (v := v)
    unfold putD at ih ⊢
    rw [List.map_cons, List.map_cons, ixK, cdPut]
    by_cases h : e.1 = c
    · rw [if_pos (cellK_inj.mpr h), if_pos h]
      subst h
      rfl
    · rw [if_neg (fun z => h (cellK_inj.mp z)), if_neg h]
      cases e2 : ixK (m.map fun e => cellK e.1) (cellK c) with
      | none =>
        rw [e2] at ih
        have h1 := congrArg Prod.fst ih
        have h2 := congrArg Prod.snd ih
        dsimp only at h1 h2
        show (cellK e.1 :: (m.map fun e => cellK e.1) ++ [cellK c], e.2 :: (m.map fun e => e.2) ++ [v]) = _
        rw [List.cons_append, List.cons_append, h1, h2]
        rfl
      | some n =>
        rw [e2] at ih
        have h1 := congrArg Prod.fst ih
        have h2 := congrArg Prod.snd ih
        dsimp only at h1 h2
        show (cellK e.1 :: (m.map fun e => cellK e.1), e.2 :: (m.map fun e => e.2).set n v) = _
        rw [h1, h2]
        rfl
section
variable {Q : D → Prop}
theorem o_inD {o : Bool} {c : Cell} {m : List (Cell × D)} (k : Q (.at (.bl (cdGet m c).isSome))) : opt (gIn [cellD c, cdD o m]) Q := by
  refine opt_of (b := .at (.bl (cdGet m c).isSome)) ?_ k
  show ((some (NestedKey.tup [.num c.1, .num c.2])).bind fun k => if k.depth ≤ 8 then some (atNK (m.map fun e => cellK e.1) (m.map fun e => e.2) k).isSome else none).map (fun b => D.at (.bl b)) = _
  rw [Option.bind_some, if_pos (cell_depth c), show NestedKey.tup [.num c.1, .num c.2] = cellK c from rfl, at_cd]
  rfl
theorem o_notinD {o : Bool} {c : Cell} {m : List (Cell × D)} (k : Q (.at (.bl (!(cdGet m c).isSome)))) : opt (gNotIn [cellD c, cdD o m]) Q := by
  refine opt_of (b := .at (.bl (!(cdGet m c).isSome))) ?_ k
  show ((some (NestedKey.tup [.num c.1, .num c.2])).bind fun k => if k.depth ≤ 8 then some (atNK (m.map fun e => cellK e.1) (m.map fun e => e.2) k).isSome else none).map (fun b => D.at (.bl (!b))) = _
  rw [Option.bind_some, if_pos (cell_depth c), show NestedKey.tup [.num c.1, .num c.2] = cellK c from rfl, at_cd]
  rfl
end
theorem mut_cd {m : List (Cell × D)} {c : Cell} {e : D} (h : m.length ≤ 100000) : mutP (cdD true m) [] uSet [cellD c, e] = some (cdD true (cdPut m c e), .at .non) := by
  have h2 := mut_dnC (ks := m.map fun e => cellK e.1) (vs := m.map fun e => e.2) (c := c) (e := e) (by rw [List.length_map]; exact h)
  rw [show NestedKey.tup [.num c.1, .num c.2] = cellK c from rfl, put_cd] at h2
  exact h2
/-! sets of cells: all values True -/
abbrev tt (c : Cell) : Cell × D := (c, .at (.bl true))
abbrev csD (o : Bool) (cs : List Cell) : D := cdD o (cs.map tt)
def putC (cs : List Cell) (c : Cell) : List Cell := if c ∈ cs then cs else cs ++ [c]
theorem get_tt {c : Cell} : ∀ {cs : List Cell}, (cdGet (cs.map tt) c).isSome = decide (c ∈ cs)
  | [] => by simp [cdGet]
  | e :: cs => by
    rw [List.map_cons, cdGet]
    by_cases h : e = c
    · subst h; simp
    · rw [if_neg h, get_tt (cs := cs)]
      by_cases h2 : c ∈ cs <;> simp [h2, Ne.symm h]
theorem put_tt {c : Cell} : ∀ {cs : List Cell}, cdPut (cs.map tt) c (.at (.bl true)) = (putC cs c).map tt
  | [] => by simp [cdPut, putC]
  | e :: cs => by
    rw [List.map_cons, cdPut]
    unfold putC
    by_cases h : e = c
    · subst h; simp
    · rw [if_neg h, put_tt (cs := cs)]
      unfold putC
      by_cases h2 : c ∈ cs <;> simp [h2, Ne.symm h]
theorem putC_len {cs : List Cell} {c : Cell} : (putC cs c).length ≤ cs.length + 1 := by
  unfold putC
  split <;> simp
theorem fold_len : ∀ {xs cs : List Cell}, (xs.foldl putC cs).length ≤ cs.length + xs.length
  | [], cs => by simp
  | x :: xs, cs => by
    have h1 := fold_len (xs := xs) (cs := putC cs x)
    have h2 := putC_len (cs := cs) (c := x)
    rw [List.foldl_cons, List.length_cons]
    omega
section
variable {Q : D → Prop}
theorem o_inS {o : Bool} {c : Cell} {cs : List Cell} (k : Q (.at (.bl (decide (c ∈ cs))))) : opt (gIn [cellD c, csD o cs]) Q := o_inD (by rw [get_tt]; exact k)
theorem o_notinS {o : Bool} {c : Cell} {cs : List Cell} (k : Q (.at (.bl (!decide (c ∈ cs))))) : opt (gNotIn [cellD c, csD o cs]) Q := o_notinD (by rw [get_tt]; exact k)
theorem putAll_tt : ∀ {xs cs : List Cell}, putAll ((cs.map tt).map (fun e => cellK e.1), (cs.map tt).map fun e => e.2) (xs.map fun c => (cellK c, D.at (.bl true))) = (((xs.foldl putC cs).map tt).map (fun e => cellK e.1), ((xs.foldl putC cs).map tt).map fun e => e.2)
  | [], cs => rfl
  | x :: xs, cs => by
    rw [List.foldl_cons, ← putAll_tt (xs := xs) (cs := putC cs x), ← put_tt, ← put_cd]
    rfl
theorem o_dictS {o : Bool} {cs : List Cell} (hl : cs.length ≤ 100000) (k : Q (csD true (cs.foldl putC []))) : opt (one1 gDictN [.nd (.lst o) (cs.map fun c => .nd .tup [cellD c, .at (.bl true)])]) Q := by
  have e : allSome pairN (cs.map fun c => .nd .tup [cellD c, .at (.bl true)]) = some (cs.map fun c => (cellK c, D.at (.bl true))) := allSome_map fun c _ => by
    show ((some (NestedKey.tup [.num c.1, .num c.2])).bind fun k => if k.depth ≤ 8 ∧ (D.at (.bl true)).pure = true then some (k, D.at (.bl true)) else none) = _
    rw [Option.bind_some, if_pos ⟨cell_depth c, rfl⟩]
  refine opt_of (b := csD true (cs.foldl putC [])) ?_ k
  show ((allSome pairN (cs.map fun c => .nd .tup [cellD c, .at (.bl true)])).bind fun ps => if ps.length ≤ sizeLine then some (D.nd (.dn true (putAll ([], []) ps).1) (putAll ([], []) ps).2) else none) = _
  rw [e, Option.bind_some, if_pos]
  · have h := putAll_tt (xs := cs) (cs := [])
    have h' : putAll ([], []) (cs.map fun c => (cellK c, D.at (.bl true))) = _ := h
    rw [h']
  · rw [List.length_map]
    exact Nat.le_of_lt (size_m (by omega))
end
theorem mut_cs {cs : List Cell} {c : Cell} (h : cs.length ≤ 100000) : mutP (csD true cs) [] uSet [cellD c, .at (.bl true)] = some (csD true (putC cs c), .at .non) := by
  have := mut_cd (m := cs.map tt) (c := c) (e := .at (.bl true)) (by rw [List.length_map]; exact h)
  rw [put_tt] at this
  exact this
theorem fold_nodup : ∀ {xs cs : List Cell}, (cs ++ xs).Nodup → xs.foldl putC cs = cs ++ xs
  | [], cs, _ => by simp
  | x :: xs, cs, h => by
    rw [List.foldl_cons]
    have hx : x ∉ cs := fun hm => by
      rw [List.nodup_append] at h
      exact h.2.2 x hm x List.mem_cons_self rfl
    have e : putC cs x = cs ++ [x] := if_neg hx
    rw [e, fold_nodup (by rw [List.append_assoc]; exact h), List.append_assoc]
    rfl
/-! cells, rising -/
def ltC (a b : Cell) : Prop := a.1 < b.1 ∨ a.1 = b.1 ∧ a.2 < b.2
instance : DecidableRel ltC := fun a b => by unfold ltC; infer_instance
theorem ltC_irrefl (a : Cell) : ¬ ltC a a := by unfold ltC; omega
theorem row_sorted {x y : Int} : ∀ n : Nat, ((List.range n).map fun (j : Nat) => ((x, y + (j : Int)) : Cell)).Pairwise ltC := fun n => by
  rw [List.pairwise_map]
  exact List.pairwise_lt_range.imp fun {a b} h => .inr ⟨rfl, by dsimp only; omega⟩
theorem cov_sorted {w h : Int} {p : Cell} : (cov w h p).Pairwise ltC := by
  unfold cov
  rw [List.pairwise_flatMap]
  refine ⟨fun i _ => row_sorted _, List.pairwise_lt_range.imp fun {a b} hab x hx y hy => ?_⟩
  obtain ⟨i, _, rfl⟩ := List.mem_map.mp hx
  obtain ⟨j, _, rfl⟩ := List.mem_map.mp hy
  exact .inl (by dsimp only; omega)
theorem sorted_nodup {cs : List Cell} (h : cs.Pairwise ltC) : cs.Nodup := h.imp fun {a b} hab => by
  rintro rfl
  exact ltC_irrefl a hab
theorem cov_nodup {w h : Int} {p : Cell} : (cov w h p).Nodup := sorted_nodup cov_sorted
end Z

set_option Elab.async false
set_option linter.all false
set_option maxRecDepth 100000
set_option maxHeartbeats 4000000
/-! Z24: more rules for goals. -/
namespace Z
open PySem L2
section
variable {Q : D → Prop}
theorem o_anyE {o : Bool} {bs : List Bool} (k : Q (.at (.bl (bs.any id)))) : opt (one1 gAny [.nd (.lst o) (bs.map fun b => .at (.bl b))]) Q := by
  refine opt_of (b := .at (.bl (bs.any id))) ?_ k
  show ((allSome asBl (bs.map fun b => D.at (.bl b))).map fun ns => D.at (.bl (ns.any id))) = _
  rw [allSome_map (f := fun b => D.at (.bl b)) (h := id) fun z hz => rfl, List.map_id]
  rfl
end
end Z

set_option Elab.async false
set_option linter.all false
set_option maxRecDepth 100000
set_option maxHeartbeats 4000000
/-! Z25: enumerate of lists and tuples. -/
namespace PySem
open Sem (wp)
open AutoSeq1 (wpAny_loadPart')
theorem zmeets_enumerate_newT (l : Addr) (items : Array Value) :
    Meets (Builtin.«enumerate.__new__» ⟨[.type "enumerate", .ref l], []⟩) (fun _ R s => s.heap.IsTuple l items ∧
      R (.ok (.ret (.ref (s.heap.push { cls := .type "tuple_iterator", data := .fields #[.ref l, .int 0 0] }).objs.size)))
        { s with heap := (s.heap.push { cls := .type "tuple_iterator", data := .fields #[.ref l, .int 0 0] }).push { cls := .type "enumerate", data := .fields #[.none, .bool false, .ref s.heap.objs.size, rawInt 0, .none, .none] } }) :=
  .of_wp fun prog w A R s h => by
    obtain ⟨hp, g, d, tk, os⟩ := s; obtain ⟨⟨⟨c, dct, dt, sl⟩, hl, hc, n, hd⟩, h⟩ := h
    replace hc : c = .type "tuple" := hc
    replace hd : dt = .seq items n := hd
    subst hc hd
    have hsub := sub_enumerate
    have hL : Heap.IsTuple (Shared.heap ⟨hp, g, d, tk, os⟩) l items := ⟨_, hl, rfl, n, rfl⟩
    wp_walk using wpAny_loadPart' hl
    refine wpAny_stack_any fun st => wpAny_pure ?_
    split
    · rename_i c _ _ _ _ _
      cases (c == Value.type "enumerate")
      · wp_walk using wpAny_loadPart' hl, wpAny_pyIter_tuple hL
        exact ⟨_, rfl, h⟩
      · wp_walk using wpAny_loadPart' hl, wpAny_pyIter_tuple hL
        exact ⟨_, rfl, h⟩
    · wp_walk using wpAny_loadPart' hl, wpAny_pyIter_tuple hL
      exact ⟨_, rfl, h⟩
section
variable {prog : Program} {w : World} {A : Around} {E : Value → Shared → Prop} {s : Shared}
theorem zcall_enumerate_tuple {l : Addr} {items : Array Value} {Q : Value → Shared → Prop} (hL : s.heap.IsTuple l items)
    (h : ∀ h', IsEnum h' (s.heap.objs.size + 1) s.heap.objs.size 0 .none → h'.IsTupleIter s.heap.objs.size l 0 → h'.objs.size = s.heap.objs.size + 2 →
      (∀ b o, s.heap.get? b = some o → h'.get? b = some o) → Q (.ref (s.heap.objs.size + 1)) { s with heap := h' }) :
    wpAny (model prog w) A (call (.type "enumerate") [.ref l]) Q E s := by
  refine callType_new F.called_enumerate (by decide) (F.typeCall_enumerate_1 _) (F.newCall_enumerate_1 _) (fun obj => F.args_object_init_2 obj _) F.entry_enumerate_new
    (zmeets_enumerate_newT l items) ⟨hL, ?_⟩
  have hz : (s.heap.push { cls := .type "tuple_iterator", data := .fields #[.ref l, .int 0 0] }).objs.size = s.heap.objs.size + 1 := Heap.size_push ..
  show _ ∧ _
  rw [hz]
  have he : IsEnum ((s.heap.push { cls := .type "tuple_iterator", data := .fields #[.ref l, .int 0 0] }).push
      { cls := .type "enumerate", data := .fields #[.none, .bool false, .ref s.heap.objs.size, rawInt 0, .none, .none] }) (s.heap.objs.size + 1) s.heap.objs.size 0 .none := by
    have := Heap.get?_push_size (s.heap.push { cls := .type "tuple_iterator", data := .fields #[.ref l, .int 0 0] })
      (o := { cls := .type "enumerate", data := .fields #[.none, .bool false, .ref s.heap.objs.size, rawInt 0, .none, .none] }) rfl
    rw [hz] at this; exact this
  refine ⟨⟨_, he, rfl⟩, h _ he ⟨_, Heap.get?_push_of_some _ (Heap.get?_push_size _ rfl), rfl, rfl⟩ (by rw [Heap.size_push, hz]) fun b o x => Heap.get?_push_of_some _ (Heap.get?_push_of_some _ x)⟩
end
end PySem
namespace Z
open PySem PySem.Spec PyProof.Rows L2
def IteT (K : PySem.W.Frag) (a : Addr) : It :=
  ⟨fun i H => ∃ (xs : List V) (x : V), SqT K H a xs ∧ xs[i]? = some x, fun i H v H' => ∃ T x, v = .ref T ∧ H T = none ∧ H' = upd H T (.tup [.int (i : Nat), x]) ∧ ∀ xs, SqT K H a xs → xs[i]? = some x, fun i H => ∃ xs : List V, SqT K H a xs ∧ xs.length ≤ i⟩
theorem turn_enumT {P : Program} {w : World} {K : PySem.W.Frag} {elts : List Expr} {kk : Nat} {tpos : Pos} (a e it : Addr) (hea : e ≠ a) (hia : a ≠ it) :
    Turn P w K (.Tuple elts kk tpos) (IteT K a) [e, it] e (fun i h => (∃ old, IsEnum h e it ((i : Nat) : Int) old) ∧ h.IsTupleIter it a i ∧ e ≠ it) where
  mem := by simp
  obj := fun i h st b hb => by
    obtain ⟨⟨old, he⟩, ⟨o, ho, hc, hd⟩, _⟩ := st
    have e' : b = e ∨ b = it := by simpa using hb
    rcases e' with z | z
    · rw [z]; exact ⟨_, he, fun v q => nomatch q⟩
    · rw [z]; exact ⟨o, ho, fun v q => by rw [hd] at q; cases q⟩
  keep := fun i h h' st k => let ⟨⟨old, he⟩, hi, hne⟩ := st; ⟨⟨old, k e (by simp) _ he⟩, hi.at fun o q => k it (by simp) o q, hne⟩
  item := by
    intro X hP hw hK hc i pins s σ H E I hf st hg
    subst hP hw hK
    obtain ⟨⟨old, he⟩, hit, hne⟩ := st
    obtain ⟨xs, x, hq, hx⟩ := hg
    obtain ⟨its, rv, p, hz⟩ := I.tuple hq
    obtain ⟨u, hu, ru⟩ := rv.get hx
    have hp : s.heap.IsTuple a its.toArray := p
    have hlen : i < its.toArray.size := by
      have := (List.getElem?_eq_some_iff.mp hu).1
      simpa using this
    have hel : e < s.heap.objs.size := Heap.lt_size he
    have hil : it < s.heap.objs.size := by obtain ⟨_, q, _⟩ := hit; exact Heap.lt_size q
    refine wpAny_pyNext_enum_itemD (Draws.tuple (prog := X.prog) (w := X.w) (A := X.A.in1) (I.ok.hd hc) it a hia its.toArray) he ⟨hit, hp⟩ hlen hne (by simp [hne, hea]) fun x' h' tk hP ho hst hT hsz hk => ?_
    obtain ⟨hit', hp'⟩ := hst
    have hux : x' = u := by
      have : its.toArray[i]? = some x' := hP
      rw [List.getElem?_toArray, hu] at this
      cases this
      rfl
    subst hux
    refine ⟨_, rfl, wpAny_letOwnedTupleGo_enum (s := { s with heap := h', toks := tk + 1 }) ho fun h'' he' sb => ?_⟩
    have hT2 : h''.get? s.heap.objs.size = some { cls := .type "tuple", data := .seq #[.int i tk, x'] } := (sb.2 _ (Nat.ne_of_gt hel)).trans hT
    have new : ObjOk X.prog X.w (upd H s.heap.objs.size (.tup [.int (i : Nat), x])) h'' s.heap.objs.size (.tup [.int (i : Nat), x]) :=
      ⟨by show 2 ≤ sizeLine; decide, [.int i tk, x'], .cons ⟨_, rfl⟩ (.cons ru .nil), ⟨_, hT2, rfl, _, rfl⟩⟩
    have I1 : Inv X pins σ (upd H s.heap.objs.size (.tup [.int (i : Nat), x])) { s with heap := h'', toks := tk + 1 } :=
      I.turnedNew (ch := [e, it]) (fun b ob hb q => (sb.2 b (fun z => hb (by simp [z]))).trans (hk b ob (fun z => hb (by simp [z])) (fun z => hb (by simp [z])) q)) hf (Nat.le_refl _) new
    refine ⟨.ref s.heap.objs.size, _, I1, rfl, ⟨_, x, rfl, I.hok.fresh (Nat.le_refl _), rfl, fun ys hy => by rw [I.tuple_inj hy hq]; exact hx⟩, ⟨⟨x', ?_⟩, hit'.at fun o q => (sb.2 it (Ne.symm hne)).trans q, hne⟩, fun b hb => ?_⟩
    · have e1 : ((i + 1 : Nat) : Int) = (i : Int) + 1 := by omega
      rw [e1]; exact he'
    · have hb' : b < s.heap.objs.size := by
        have e' : b = e ∨ b = it := by simpa using hb
        rcases e' with z | z
        · rw [z]; exact hel
        · rw [z]; exact hil
      rw [upd_ne (Nat.ne_of_lt hb')]
      exact (hf b hb).1
  done := by
    intro X hP hw hK hc i pins s σ H E I hf st hg
    subst hP hw hK
    obtain ⟨⟨old, he⟩, hit, hne⟩ := st
    obtain ⟨xs, hq, hx⟩ := hg
    obtain ⟨its, rv, p, hz⟩ := I.tuple hq
    obtain ⟨f0, f1, f2, f3, f4, f5⟩ := hf it (by simp)
    have hl := rv.length
    have hp : s.heap.IsTuple a its.toArray := p
    have hT : s.TypeIs (.ref e) "enumerate" := ⟨_, he, rfl⟩
    have hend : wpAny (model X.prog X.w) X.A (pyNext (.ref e)) (fun o s' => o = none ∧ Inv X pins σ H s') E s := by
      unfold pyNext
      refine wpAny_bind (wpAny_attempt (wpAny_callSpecial?_slot (name := Str.ofString "__next__") hT F.slot_enumerate_next
        (wpAny_call_entry F.slot_enumerate_next hT F.entry_enumerate_next ?_ (F.args_enumerate_next_1 _))))
      show wpAny _ _ (field (.ref e) 2 >>= _) _ _ _
      refine wpAny_bind (wpAny_field he rfl (x := .ref it) rfl ?_)
      refine wpAny_bind (wpAny_nextOf_tuple_end (I.ok.hd hc) hit hp (by simp; omega) fun h' x he' hx' => ?_)
      obtain ⟨o, ho, hc⟩ := hx'
      refine wpAny_bind (wpAny_isInstance (T := "StopIteration") (b := true) ⟨o, ho, hc⟩ isSubtype_stop ?_)
      exact wpAny_pure ⟨rfl, I.turned (t' := s.toks) (fun b o hb q => he' b o hb q) f0 f1 f3 f4 f5⟩
    exact hend
  self := fun A i s Q E st h => let ⟨⟨_, he⟩, _⟩ := st; wpAny_pyIter_enum he h
def iEnumA (K : PySem.W.Frag) (ta : TA) : TI := fun σ H R => ta σ H fun vs H1 => ∃ a xs, vs = [.ref a] ∧ ((SqL K H1 a xs ∧ R (Ite K a) H1) ∨ (SqT K H1 a xs ∧ R (IteT K a) H1))
theorem pi_enumA {X : Cx} {e : Expr} {ta : TA} {p pos tpos : Pos} {elts : List Expr} {kk : Nat} (hg : Gl X "enumerate") (hm : X.mg "enumerate" = none) (ha : PA X [e] ta) (hs : starEach [e] X.env = [(false, eval e X.env)] := by rfl) :
    PI X (.Tuple elts kk tpos) (.Call (.Name "enumerate" p) [e] [] pos) (iEnumA X.K ta) := by
  refine ⟨fun pins s σ H R I h => ?_⟩
  refine Call_ (ld_blt I hg hm boot_enumerate (PyProof.Rows.callWith_type1 (thn (ha.run pos pins s σ H _ I h) fun us s1 ⟨vs, H1, I1, r1, q1⟩ => ?_) hs rfl))
  obtain ⟨a, xs, ex, q1⟩ := q1
  subst ex
  cases r1 with
  | cons r rr =>
    cases rr
    cases r
    have fresh2 : ∀ b, b ∈ [s1.heap.objs.size + 1, s1.heap.objs.size] → FpOk X pins H1 b := fun b hb => by
      have e' : b = s1.heap.objs.size + 1 ∨ b = s1.heap.objs.size := by simpa using hb
      have hle : s1.heap.objs.size ≤ b := by
        rcases e' with z | z
        · rw [z]; exact Nat.le_add_right _ _
        · rw [z]; exact Nat.le_refl _
      exact I1.fpOk hle (I1.hok.fresh hle)
    rcases q1 with ⟨hq, q⟩ | ⟨hq, q⟩
    · obtain ⟨its, rv, p', hz⟩ := I1.list hq
      refine call_enumerate_list p'.isList fun h' he hit hsz hk => wpAny_pyIter_enum he ?_
      have I2 : Inv X pins σ H1 { s1 with heap := h' } := I1.kept (t' := s1.toks) hk
      exact ⟨s1.heap.objs.size + 1, [s1.heap.objs.size + 1, s1.heap.objs.size], _, _, H1, rfl, I2, turn_enum a (s1.heap.objs.size + 1) s1.heap.objs.size, ⟨⟨.none, he⟩, hit, Nat.succ_ne_self _⟩, fresh2, q⟩
    · obtain ⟨its, rv, p', hz⟩ := I1.tuple hq
      have hp : s1.heap.IsTuple a its.toArray := p'
      obtain ⟨o1, ho1, _⟩ := id hp
      have hal : a < s1.heap.objs.size := Heap.lt_size ho1
      refine zcall_enumerate_tuple hp fun h' he hit hsz hk => wpAny_pyIter_enum he ?_
      have I2 : Inv X pins σ H1 { s1 with heap := h' } := I1.kept (t' := s1.toks) hk
      exact ⟨s1.heap.objs.size + 1, [s1.heap.objs.size + 1, s1.heap.objs.size], _, _, H1, rfl, I2, turn_enumT a (s1.heap.objs.size + 1) s1.heap.objs.size (Nat.ne_of_gt (Nat.lt_succ_of_lt hal)) (Nat.ne_of_lt hal), ⟨⟨.none, he⟩, hit, Nat.succ_ne_self _⟩, fresh2, q⟩
/-! ### on data -/
def enumD (xs : List D) : List D := xs.zipIdx.map fun p => D.nd .tup [.at (.int (p.2 : Nat)), p.1]
theorem enumD_get {xs : List D} {i : Nat} {z : D} (h : (enumD xs)[i]? = some z) : ∃ x, xs[i]? = some x ∧ z = .nd .tup [.at (.int (i : Nat)), x] := by
  unfold enumD at h
  rw [List.getElem?_map, List.getElem?_zipIdx] at h
  cases e : xs[i]? with
  | none => rw [e] at h; cases h
  | some x =>
    rw [e] at h
    cases h
    exact ⟨x, rfl, by simp⟩
theorem enumD_len {xs : List D} : (enumD xs).length = xs.length := by
  unfold enumD
  simp
def zEnum (f : EF) : IF := fun ρ => (f ρ).bind fun a ρ1 => match a with
  | .nd (.lst _) xs => .ok ([.nd (.lst false) (frzL xs)], enumD (frzL xs)) ρ1
  | .nd .tup xs => .ok ([.nd .tup (frzL xs)], enumD (frzL xs)) ρ1
  | _ => .stuck
section
variable {m : M} {c : Cz} {ρ : Env} {T : List D} {σ : Sl} {tv : List V} {H F : Hp} {A B : List Addr}
theorem yields_enum {xs : List D} {a : Addr} (px : (D.nd (.lst false) xs).pure = true) : Yields m [.nd (.lst false) xs] (enumD xs) [.ref a] (Ite m.K a) := by
  intro c ρ T σ tv H i s
  obtain ⟨F, A, B, s⟩ := s
  have s : ZSx m c ρ (.nd (.lst false) xs :: T) σ (.ref a :: tv) H F A B := s
  cases id s.tm with
  | cons ra r =>
    obtain ⟨a', us, A', e, h1, h2⟩ := rep_lst ra s.sub
    cases e
    refine ⟨fun z hz => ?_, fun hi => ⟨us, SqL.of h1, by rw [h2.length]; rw [enumD_len] at hi; exact hi⟩⟩
    obtain ⟨x, ex, rfl⟩ := enumD_get hz
    obtain ⟨xv, _, e1, r1, _⟩ := h2.get ex
    refine ⟨⟨us, xv, SqL.of h1, e1⟩, fun v H' hy => ?_⟩
    obtain ⟨p, x', rfl, hp, rfl, g1⟩ := hy
    have e3 := g1 us (SqL.of h1)
    rw [e1] at e3
    cases e3
    have s1 := (s.pushF (r1.pureR (pure_item px ex) (Same.refl _))).pushF (Rep.at (.int (i : Nat)))
    exact ZS.newT (ds := [.at (.int (i : Nat)), x]) (vs := [.int (i : Nat), xv]) ⟨_, _, _, s1⟩ rfl hp
theorem yields_enumT {xs : List D} {a : Addr} (px : (D.nd .tup xs).pure = true) : Yields m [.nd .tup xs] (enumD xs) [.ref a] (IteT m.K a) := by
  intro c ρ T σ tv H i s
  obtain ⟨F, A, B, s⟩ := s
  have s : ZSx m c ρ (.nd .tup xs :: T) σ (.ref a :: tv) H F A B := s
  cases id s.tm with
  | cons ra r =>
    obtain ⟨a', us, A', e, h1, h2⟩ := rep_tup ra
    cases e
    have h1 := Same.sqT s.sub h1
    refine ⟨fun z hz => ?_, fun hi => ⟨us, h1, by rw [h2.length]; rw [enumD_len] at hi; exact hi⟩⟩
    obtain ⟨x, ex, rfl⟩ := enumD_get hz
    obtain ⟨xv, _, e1, r1, _⟩ := h2.get ex
    refine ⟨⟨us, xv, h1, e1⟩, fun v H' hy => ?_⟩
    obtain ⟨p, x', rfl, hp, rfl, g1⟩ := hy
    have e3 := g1 us h1
    rw [e1] at e3
    cases e3
    have s1 := (s.pushF (r1.pureR (pure_item px ex) (Same.refl _))).pushF (Rep.at (.int (i : Nat)))
    exact ZS.newT (ds := [.at (.int (i : Nat)), x]) (vs := [.int (i : Nat), xv]) ⟨_, _, _, s1⟩ rfl hp
end
section
variable {X : Cx} {W : WX} {e1 : Expr} {p1 : Bool} {f : EF} {p pos tpos : Pos} {elts : List Expr} {kk : Nat}
theorem zi_enum (hs : starEach [e1] X.env = [(false, eval e1 X.env)] := by rfl) (hg : Gl X "enumerate") (hm : X.mg "enumerate" = none) (h1 : ZE X W p1 e1 f) :
    ZI X W (.Tuple elts kk tpos) (.Call (.Name "enumerate" p) [e1] [] pos) (zEnum f) :=
  piImp (pi_enumA hg hm (pa_cons h1 pa_nil hs) hs) fun σ H Q ⟨c, ρ, T, tv, s, q⟩ => by
    refine ⟨c, ρ, T, tv, s, ?_⟩
    unfold zEnum at q
    cases e : f ρ with
    | stuck => rw [e] at q; exact q
    | ex x ρ1 => rw [e] at q; exact q
    | ok a ρ1 =>
      rw [e] at q
      intro av H1 s1 _
      have s4 := s1.freeze.1
      cases a with
      | «at» a => exact (show False from q).elim
      | nd k xs =>
        cases k <;> first | exact (show False from q).elim | skip
        · rw [D.frz] at s4
          obtain ⟨F, A, B, s5⟩ := id s4
          cases id s5.tm with
          | cons ra r =>
            obtain ⟨a', us, A', rfl, h1, h2⟩ := rep_tup ra
            exact ⟨a', us, rfl, .inr ⟨Same.sqT s5.sub h1, q [_] [_] _ _ rfl s4 (yields_enumT (m := mOf X) (frz_shape (d := .nd .tup xs) rfl))⟩⟩
        · rename_i o
          rw [D.frz] at s4
          obtain ⟨F, A, B, s5⟩ := id s4
          cases id s5.tm with
          | cons ra r =>
            obtain ⟨a', us, A', rfl, h1, h2⟩ := rep_lst (o := false) ra s5.sub
            exact ⟨a', us, rfl, .inl ⟨SqL.of h1, q [_] [_] _ _ rfl s4 (yields_enum (m := mOf X) (frz_shape (d := .nd (.lst o) xs) rfl))⟩⟩
end
end Z

set_option Elab.async false
set_option linter.all false
set_option maxRecDepth 100000
set_option maxHeartbeats 4000000
/-! Z26: lists and tuples times numbers; sorted lists of cells. -/
namespace L2
open PySem PySem.Spec PyProof.Rows
section
variable {X : Cx}
end
end L2

set_option Elab.async false
set_option linter.all false
set_option maxRecDepth 100000
set_option maxHeartbeats 4000000
/-! Z27: sorted of numbers or cells, lists and tuples times numbers, on data. -/
namespace Z
open PySem PySem.Spec PyProof.Rows L2
section
variable {X : Cx} {W : WX} {a b : Expr} {o o1 o2 : Opd} {p p1 p2 : Bool} {q1 pos : Pos}
end
/-! ### times -/
section
variable {X : Cx} {W : WX} {a b : Expr} {o1 o2 : Opd} {p1 p2 : Bool} {pos : Pos}
end
end Z

set_option Elab.async false
set_option linter.all false
set_option maxRecDepth 100000
set_option maxHeartbeats 4000000
/-! Z28: rules for goals: enumerate, zip, sorted, times. -/
namespace Z
open PySem L2
section
variable {ρ : Env} {f : EF} {xs ys : List D}
def asSeq : D → Option (D × List D)
  | .nd .tup xs => some (.nd .tup xs, xs)
  | .nd (.lst _) xs => some (.nd (.lst false) xs, xs)
  | _ => none
theorem opt_asSeqT {Q : D × List D → Prop} (k : Q (.nd .tup xs, xs)) : opt (asSeq (.nd .tup xs)) Q := k
theorem opt_asSeqL {o : Bool} {Q : D × List D → Prop} (k : Q (.nd (.lst false) xs, xs)) : opt (asSeq (.nd (.lst o) xs)) Q := k
theorem wp_zEnumP {Q : List D × List D → Env → Prop} (h : wp f ρ fun d ρ' => opt (asSeq d) fun s => pureL s.2 = true ∧ Q ([s.1], enumD s.2) ρ') : wp (zEnum f) ρ Q := by
  have h2 : wp f ρ fun d ρ' => wp (fun ρ1 => match d with
      | .nd (.lst _) xs => R.ok ([D.nd (.lst false) (frzL xs)], enumD (frzL xs)) ρ1
      | .nd .tup xs => .ok ([.nd .tup (frzL xs)], enumD (frzL xs)) ρ1
      | _ => .stuck) ρ' Q := wp_mono h fun d ρ' z => by
    unfold opt asSeq at z
    split at z
    · rename_i s e
      split at e
      · cases e
        show Q ([.nd .tup (frzL _)], enumD (frzL _)) ρ'
        rw [frzL_pure _ z.1]
        exact z.2
      · cases e
        show Q ([.nd (.lst false) (frzL _)], enumD (frzL _)) ρ'
        rw [frzL_pure _ z.1]
        exact z.2
      · cases e
    · exact z.elim
  exact wp_bnd.mpr h2
end
section
variable {Q : D → Prop}
theorem o_catT {xs ys : List D} (h1 : pureL xs = true) (h2 : pureL ys = true) (h3 : xs.length + ys.length ≤ sizeLine) (k : Q (.nd .tup (xs ++ ys))) : opt (gAdd [.nd .tup xs, .nd .tup ys]) Q := opt_of (if_pos ⟨h1, h2, h3⟩) k
end
theorem o_inS2 {Q : D → Prop} {o : Bool} {a b : Int} {cs : List Cell} (k : Q (.at (.bl (decide ((a, b) ∈ cs))))) : opt (gIn [.nd .tup [.at (.int a), .at (.int b)], csD o cs]) Q := o_inS (c := (a, b)) k
theorem o_notinS2 {Q : D → Prop} {o : Bool} {a b : Int} {cs : List Cell} (k : Q (.at (.bl (!decide ((a, b) ∈ cs))))) : opt (gNotIn [.nd .tup [.at (.int a), .at (.int b)], csD o cs]) Q := o_notinS (c := (a, b)) k
end Z

set_option Elab.async false
set_option linter.all false
set_option maxRecDepth 100000
set_option maxHeartbeats 4000000
/-! Z29: the module's constants: numbers, texts, tuples of these, dicts of these with text keys. -/
namespace Z
open PySem PySem.Spec PyProof.Rows L2
mutual
/-- u stands for d, tuples within -/
def conB (K : PySem.W.Frag) : Value → D → Bool
  | u, .at a => He.relB a.v u
  | .ref a, .nd .tup xs => (match K.lookup a with
    | some ⟨.type c, _, .seq its _, _⟩ => decide (c = "tuple") && (decide (its.size ≤ sizeLine) && consB K its.toList xs)
    | _ => false)
  | _, _ => false
def consB (K : PySem.W.Frag) : List Value → List D → Bool
  | [], [] => true
  | u :: us, d :: ds => conB K u d && consB K us ds
  | _, _ => false
end
/-- the global x stands for d -/
def Gc (w : World) (K : PySem.W.Frag) (mg : Str → Option Value) (x : Str) (d : D) : Prop := ∃ v u, mg x = some u ∧ RelV v u ∧ ∀ (P : Program) (F H : Hp), Rep ⟨P, w, K, mg⟩ F H v d []
mutual
theorem conB_ok {w : World} {K : PySem.W.Frag} {mg : Str → Option Value} : ∀ {d : D} {u : Value}, conB K u d = true → ∃ v, RelV v u ∧ ∀ (P : Program) (F H : Hp), Rep ⟨P, w, K, mg⟩ F H v d []
  | .at a, u, h => ⟨a.v, He.relB_ok (by rw [conB] at h; exact h), fun P F H => .at a⟩
  | .nd k xs, u, h => by
    cases k with
    | tup =>
      cases u with
      | ref a =>
        rw [conB] at h
        cases q : K.lookup a with
        | none =>
          rw [q] at h
          cases h
        | some o =>
          obtain ⟨oc, od, dt, osl⟩ := o
          rw [q] at h
          cases oc with
          | type c =>
            cases dt with
            | seq its n =>
              obtain ⟨h1, h2⟩ := He.ba (show (decide (c = "tuple") && (decide (its.size ≤ sizeLine) && consB K its.toList xs)) = true from h)
              obtain ⟨h3, h4⟩ := He.ba h2
              obtain ⟨vs, e1, e2⟩ := consB_ok (w := w) (mg := mg) h4
              exact ⟨.ref a, rfl, fun P F H => .fz (k := .tup) rfl (.inr ⟨_, its, n, q, congrArg Value.type (of_decide_eq_true h1), rfl, of_decide_eq_true h3, e1⟩) (e2 P F H) (.inr rfl)⟩
            | _ => cases h
          | _ => cases dt <;> cases h
      | _ => simp [conB] at h
    | _ => cases u <;> simp [conB] at h
theorem consB_ok {w : World} {K : PySem.W.Frag} {mg : Str → Option Value} : ∀ {ds : List D} {us : List Value}, consB K us ds = true → ∃ vs, Vals vs us ∧ ∀ (P : Program) (F H : Hp), Reps ⟨P, w, K, mg⟩ F H vs ds []
  | [], [], _ => ⟨[], .nil, fun P F H => .nil⟩
  | d :: ds, u :: us, h => by
    rw [consB] at h
    obtain ⟨h1, h2⟩ := He.ba h
    obtain ⟨v, r, k⟩ := conB_ok (w := w) (mg := mg) h1
    obtain ⟨vs, rs, ks⟩ := consB_ok (w := w) (mg := mg) h2
    exact ⟨v :: vs, .cons r rs, fun P F H => .cons (A := []) (B := []) (k P F H) (ks P F H)⟩
  | [], _ :: _, h => by simp [consB] at h
  | _ :: _, [], h => by simp [consB] at h
end
/-! what is asked of the top -/
def topB (K : PySem.W.Frag) (x : Str) (d : D) : Bool := match PySem.W.nsIn K mainGlobals x with
  | some (some u) => conB K u d
  | _ => false
theorem topB_ok {w : World} {K : PySem.W.Frag} {h : Heap} {mg : Str → Option Value} {x : Str} {d : D} (X : K.In h) (G : h.Ns mainGlobals mg) (c : topB K x d = true) : Gc w K mg x d := by
  unfold topB at c
  cases e : PySem.W.nsIn K mainGlobals x with
  | none =>
    rw [e] at c
    cases c
  | some r =>
    rw [e] at c
    cases r with
    | none => cases c
    | some u =>
      obtain ⟨v, r, k⟩ := conB_ok (w := w) (mg := mg) (show conB K u d = true from c)
      exact ⟨v, u, PySem.W.mg_of X G e, r, k⟩
/-- a dict of the top: its values -/
def tabB (K : PySem.W.Frag) (x : Str) (kds : List (Str × D)) : Bool := kds.all fun q => match PySem.W.nsIn K (He.ga K x) q.1 with
  | some (some u) => conB K u q.2
  | _ => false
/-! ### the Hook -/
abbrev AlC : Type := He.AlT × Bool
/-- tables and the rest -/
structure Cs where
  ts : List (Str × List (Str × D)) := []
  cs : List (Str × D) := []
  bs : List (PySem.W.Frag → Bool) := []
def Cs.ok (c : Cs) (K : PySem.W.Frag) : Bool := (c.ts.all fun q => tabB K q.1 q.2) && ((c.cs.all fun q => topB K q.1 q.2) && c.bs.all fun f => f K)
def Cs.tab (c : Cs) : List He.Tab := c.ts.map fun q => (fun K => He.ga K q.1, q.2.map (·.1))
def obsC (fa : List He.Fa) (fn : List He.DefD) (c : Cs) (K : PySem.W.Frag) : AlC := (He.obsT fa fn c.tab K, c.ok K)
def valC (fn : List He.DefD) (c : Cs) (w : World) : AlC := (He.valT fn c.tab w, true)
def obsCG (n : Nat) (fa : List He.Fa) (fn : List He.DefD) (c : Cs) (g : Addr → Option Obj) : AlC := obsC fa fn c (He.frG g (PySem.cStatics :: He.asD g n))
def SaysC (fa : List He.Fa) (fn : List He.DefD) (c : Cs) (w : World) (K : PySem.W.Frag) : Prop := obsC fa fn c K = valC fn c w
def hookC (n : Nat) (fa : List He.Fa) (fn : List He.DefD) (c : Cs) : PySem.W.Hook where
  α := AlC
  obs := fun s => obsCG n fa fn c s.heap.get?
  val := fun w => valC fn c w
  says := fun w h => ∃ K : PySem.W.Frag, K.In h ∧ SaysC fa fn c w K
  of := fun _ _ e => ⟨_, He.frG_in, e⟩
  keeps := fun _ _ _ ⟨K, hK, c⟩ k => ⟨K, PySem.W.Frag.In.keeps hK k, c⟩
theorem obsCG_eq {n : Nat} {fa : List He.Fa} {fn : List He.DefD} {c : Cs} {g : Addr → Option Obj} {s : Shared} (h : ∀ a, g a = s.heap.get? a) : obsCG n fa fn c g = (hookC n fa fn c).obs s := by
  have e : g = s.heap.get? := funext h
  rw [e] <;> rfl
section
variable {fa : List He.Fa} {fn : List He.DefD} {c : Cs} {w : World} {K : PySem.W.Frag} {h : Heap} {mg : Str → Option Value}
theorem SaysC.t (s : SaysC fa fn c w K) : He.SaysT fa fn c.tab w K := congrArg (fun z : AlC => z.1) s
theorem SaysC.d (s : SaysC fa fn c w K) : He.SaysD fa fn K := s.t.d
theorem SaysC.ok (s : SaysC fa fn c w K) : c.ok K = true := congrArg (fun z : AlC => z.2) s
theorem SaysC.con (s : SaysC fa fn c w K) (X : K.In h) (G : h.Ns mainGlobals mg) (i : Nat) {x : Str} {d : D} (e : c.cs[i]? = some (x, d)) : Gc w K mg x d :=
  topB_ok X G (List.all_eq_true.mp (He.ba (He.ba s.ok).2).1 _ (List.mem_of_getElem? e))
end
/-! ### in a def -/
section
variable {X : Cx} {W : WX} {x : Str} {d : D} {pos : Pos}
theorem ze_glo (hg : Gl X x) (h : Gc X.w X.K X.mg x d) (hd : (x == ("__debug__" : Str)) = false := by decide) : ZE X W true (.Name x pos) (eC d) := by
  obtain ⟨v, u, hm, r, k⟩ := h
  exact ze_con (pe_glob hg hm r hd) fun F H => k X.prog F H
end
end Z

set_option Elab.async false
set_option linter.all false
set_option maxRecDepth 100000
set_option maxHeartbeats 4000000
/-! Z30: name += e of numbers; {} to be a dict of cells. -/
namespace Z
open PySem PySem.Spec PyProof.Rows L2
def augK (i : Nat) (a : Int) : D → Env → R Fl
  | .at (.int b), ρ' => if i < ρ'.length then .ok .nx (ρ'.set i (some (.at (.int (a + b))))) else .stuck
  | _, _ => .stuck
def augS (i : Nat) (f : EF) (ρ : Env) : Option (Option D) → R Fl
  | some (some (.at (.int a))) => (f ρ).bind (augK i a)
  | _ => .stuck
def zAug (i : Nat) (f : EF) : SF := fun ρ => augS i f ρ ρ[i]?
section
variable {X : Cx} {W : WX} {kp : List Nat} {pos : Pos} {p : Bool} {st : Stmt} {f : EF}
theorem wp_zAug {ρ : Env} {i : Nat} {a : Int} {P : Fl → Env → Prop} (h0 : ρ[i]? = some (some (.at (.int a)))) (h : wp f ρ fun d ρ' => ∃ b, d = .at (.int b) ∧ i < ρ'.length ∧ P .nx (ρ'.set i (some (.at (.int (a + b)))))) : wp (zAug i f) ρ P := by
  have e : zAug i f ρ = (f ρ).bind (augK i a) := by
    show augS i f ρ ρ[i]? = _
    rw [h0]; rfl
  have e3 : wp (zAug i f) ρ P ↔ wp (fun ρ => (f ρ).bind (augK i a)) ρ P := by
    unfold wp
    rw [e]
  refine e3.mpr (wp_bnd.mpr (wp_mono h fun d ρ' ⟨b, e2, hi, q⟩ => ?_))
  subst e2
  have e4 : augK i a (.at (.int b)) ρ' = .ok .nx (ρ'.set i (some (D.at (.int (a + b))))) := if_pos hi
  unfold wp
  rw [e4]
  exact q
/-! {} -/
end
end Z

set_option Elab.async false
set_option linter.all false
set_option maxRecDepth 100000
set_option maxHeartbeats 4000000
/-! Z31: a call that only reads (an atom comes back): what is handed over stays as it was, owned. -/
namespace Z
open PySem PySem.Spec PyProof.Rows L2
def gR (n : Nat) (φ : Fn) (ds : List D) : Option D := if ds.length = n then (match φ (frzL ds) with
  | some (.ret (.at a) _) => some (.at a)
  | _ => none) else none
theorem lr_fn {m : M} {n : Nat} {φ : Fn} : LR m (fun vs H Q => spZ m n φ vs H Q E0) (gR n φ) := by
  intro F H vs ds A d Q sm rs hg y
  unfold gR at hg
  split at hg
  · rename_i hn
    cases e : φ (frzL ds) with
    | none => rw [e] at hg; cases hg
    | some fr =>
      rw [e] at hg
      cases fr with
      | exc x bk => cases hg
      | ret d' bk =>
        cases d' with
        | nd k xs => cases hg
        | «at» a =>
          have hd : D.at a = d := Option.some.inj hg
          subst hd
          refine ⟨H, frzL ds, [], by rw [rs.length]; exact hn, Same.refl _, Reps.freeze sm rs fun b hb => rfl, List.nodup_nil, (fun a ha => nomatch ha), ?_⟩
          rw [e]
          intro v H' F' Av Ab cp hr hb
          rw [rep_at hr]
          have k : Same H H' := fun a o h => cp.keep a o h (fun z => nomatch z)
          exact y a.v H' F [] (Same.refl _) (sm.trans k) (.at a) List.nodup_nil (fun a ha => nomatch ha) (fun a ha => nomatch ha) (fun _ _ h => .inl h) k
  · cases hg
section
variable {X : Cx} {W : WX} {k : Nat} {x : Str} {ps : List Str} {φ : Fn} {p pos : Pos} {e : Expr} {es : List Expr} {os : List (Bool × Opd)}
theorem ze_callR {n : Nat} {os' : List Opd} {p' : Bool} (F : Cal (mOf X) X.base CX0 k x ps φ) (hr : Room k X.A) (hg : Gl X x) (ha : ZOs X W (e :: es) os) (ho : os.map (·.2) = os') (hn : ps.length = n := by rfl) (hp' : os.all (·.1) = p' := by rfl) (hdb : (x == ("__debug__" : Str)) = false := by decide) (he : starEach (e :: es) X.env = (false, eval e X.env) :: starEach es X.env := by rfl)
    (hpl : (backTo pos (starEach es X.env)).any (·.1) = false := by rfl) : ZE X W p' (.Call (.Name x p) (e :: es) [] pos) (zOps (gR n φ) os') := by
  subst hn ho hp'
  obtain ⟨f, fd, F, hm, hk, hb⟩ := F
  refine peImp (pe_call (E := E0) F hr hg hm hk hb .nil pass0 ha hdb he hpl) fun σ H Q ⟨c, ρ, T, tv, s, q⟩ => ?_
  have z := ops_run (m := mOf X) (W := W) (r := fun vs H Q => spZ (mOf X) ps.length φ vs H Q E0) lr_fn (pos := os) s q
  show tOs (mOf X) W os σ H (fun vs H1 => spZ (mOf X) ps.length φ (vs ++ []) H1 Q E0)
  simpa using z
end
theorem o_callR {n : Nat} {φ : Fn} {ds : List D} {Q : D → Prop} (hn : ds.length = n) (h : sat φ (frzL ds) fun d _ => ∃ a, d = .at a ∧ Q d) : opt (gR n φ ds) Q := by
  unfold gR
  rw [if_pos hn]
  unfold sat at h
  split at h
  · rename_i e
    rw [e]
    obtain ⟨a, rfl, q⟩ := h
    exact q
  · exact h.elim
end Z

set_option Elab.async false
set_option linter.all false
set_option maxRecDepth 100000
set_option maxHeartbeats 4000000
/-! Z32: xs.pop(); the last one. -/
namespace Z
open PySem PySem.Spec PyProof.Rows L2
theorem Reps.snoc {m : M} {F H : Hp} {d : D} : ∀ {ds : List D} {vs : List V} {A : List Addr}, Reps m F H vs (ds ++ [d]) A → ∃ vs1 v A1 A2, vs = vs1 ++ [v] ∧ Reps m F H vs1 ds A1 ∧ Rep m F H v d A2 ∧ A = A1 ++ A2
  | [], _, _, .cons (A := A1) h r => by
    cases r
    exact ⟨[], _, [], A1, rfl, .nil, h, by simp⟩
  | x :: ds, _, _, .cons (A := A1) (B := A2) h r => by
    obtain ⟨vs1, v, B1, B2, rfl, r1, r2, rfl⟩ := Reps.snoc r
    exact ⟨_ :: vs1, v, A1 ++ B1, B2, rfl, .cons h r1, r2, by rw [List.append_assoc]⟩
section
variable {X : Cx} {W : WX} {o : Expr} {apos cpos : Pos} {i : Nat} {p : List Stp}
end
end Z

set_option Elab.async false
set_option linter.all false
set_option maxRecDepth 100000
set_option maxHeartbeats 4000000
/-! Z33: a call that only reads, whose result is made of tuples, or a new list of these: what is handed over stays owned. -/
namespace Z
open PySem PySem.Spec PyProof.Rows L2
mutual
/-- tuples and atoms alone -/
def D.imm : D → Bool
  | .at _ => true
  | .nd .tup xs => immL xs
  | .nd _ _ => false
def immL : List D → Bool
  | [] => true
  | x :: xs => x.imm && immL xs
end
def D.imm1 : D → Bool
  | .nd (.lst true) xs => immL xs
  | d => d.imm
def gN (n : Nat) (φ : Fn) (ds : List D) : Option D := if ds.length = n then (match φ (frzL ds) with
  | some (.ret d _) => if d.imm1 = true then some d else none
  | _ => none) else none
section
variable {m : M}
/-! what is owned is no tuple -/
end
section
variable {X : Cx} {W : WX} {k : Nat} {x : Str} {ps : List Str} {φ : Fn} {p pos : Pos} {e : Expr} {es : List Expr} {os : List (Bool × Opd)}
end
theorem o_callN {n : Nat} {φ : Fn} {ds : List D} {Q : D → Prop} (hn : ds.length = n) (h : sat φ (frzL ds) fun d _ => d.imm1 = true ∧ Q d) : opt (gN n φ ds) Q := by
  unfold sat at h
  have e1 : gN n φ ds = (match φ (frzL ds) with
    | some (.ret d _) => if d.imm1 = true then some d else none
    | _ => none) := if_pos hn
  rw [e1]
  cases e : φ (frzL ds) with
  | none => rw [e] at h; exact h.elim
  | some fr =>
    rw [e] at h
    cases fr with
    | exc x bk => exact h.elim
    | ret d bk =>
      have e2 : (if d.imm1 = true then some d else none) = some d := if_pos h.1
      show opt (if d.imm1 = true then some d else none) Q
      rw [e2]
      exact h.2
end Z

set_option Elab.async false
set_option linter.all false
set_option maxRecDepth 100000
set_option maxHeartbeats 4000000
/-! Z34: a rule for name += e. -/
namespace Z
open PySem L2
theorem wp_zAugT {ρ : Env} {i : Nat} {a : Int} {f : EF} {P : Fl → Env → Prop} (h0 : ρ[i]? = some (some (.at (.int a)))) (h : wp f ρ fun d ρ' => opt (asInt d) fun b => tgp (tgN i) (.at (.int (a + b))) ρ' (P .nx)) : wp (zAug i f) ρ P :=
  wp_zAug h0 (wp_mono h fun d ρ' z => by
    cases d with
    | nd k xs => exact z.elim
    | «at» x =>
      cases x with
      | int b =>
        obtain ⟨z1, z2⟩ := tgp_tgN.mp z
        exact ⟨b, rfl, z1, z2⟩
      | _ => exact z.elim)
end Z

set_option Elab.async false
set_option linter.all false
set_option maxRecDepth 100000
set_option maxHeartbeats 4000000
/-! Z35: {k: v, ..} with written keys, numbers among them. -/
namespace Z
open PySem PySem.Spec PyProof.Rows L2
def zDispK (ks : List Key) (fs : List EF) : EF := fun ρ => (evL fs ρ).bind fun ds ρ' => .ok (.nd (.dk true ks) ds) ρ'
section
variable {X : Cx} {W : WX} {pos : Pos}
theorem pe_kneg {i : Int} {j : Nat} {q q2 : Pos} : PE X (.UnaryOp .USub (.Constant (.int i) j q) q2) (tC (kV (.inl (-i)))) :=
  peImp (pe_un un_neg pe_int) fun σ H Q h => ⟨i, rfl, h⟩
theorem wp_zDispK {ρ : Env} {ks : List Key} {fs : List EF} {Q : D → Env → Prop} : wp (zDispK ks fs) ρ Q ↔ wp (evL fs) ρ fun ds ρ' => Q (.nd (.dk true ks) ds) ρ' := wp_bnd
end
end Z

set_option Elab.async false
set_option linter.all false
set_option maxRecDepth 100000
set_option maxHeartbeats 4000000
/-! Z36: exceptions: a caught one as a thing that stays; raise; try. -/
namespace Z
open PySem PySem.Spec PyProof.Rows L2

/-! ### a caught exception is tracked -/
section
variable {X : Cx} {pins : List (Addr × Obj)} {σ : L2.St} {H : Hp} {s : Shared}
end

section
variable {X : Cx} {x n : Str} {c : Value} {i : Nat} {body suite : List Stmt} {b₀ : Stmt} {np pos pos' : Pos} {tb : WX → TS} {ts : TS} {Wout : WX}
end
end Z

set_option Elab.async false
set_option linter.all false
set_option maxRecDepth 100000
set_option maxHeartbeats 4000000
/-! Z37: exceptions as data: raise, catch. -/
namespace Z
open PySem PySem.Spec PyProof.Rows L2
section
variable {m : M}
/-! what is owned is no exception's dict -/
variable {c : Cz} {ρ : Env} {T : List D} {σ : Sl} {tv : List V} {H F : Hp} {A B : List Addr}
theorem ZSx.grow {F' H' : Hp} (z : ZSx m c ρ T σ tv H F A B) (hh : Same H H') (ff : Same F F') (fh : Same F' H') (nf : ∀ a ∈ A ++ B, F' a = none) (fn : ∀ a o, F' a = some o → F a = some o ∨ c.H a = none) (th : ∀ a, H' a = none → H a = none) :
    ZSx m c ρ T σ tv H' F' A B := by
  have k : ∀ b, (∃ o, H b = some o) → H' b = H b := fun b ⟨o, e⟩ => by rw [e]; exact hh _ _ e
  refine ⟨fh, z.sl.mono ff fun b hb => k b (z.sl.there b hb), z.tm.mono ff fun b hb => k b (z.tm.there b hb), z.nd, nf, fun b o e => ff _ _ (z.fin _ _ e), fun a o e => ?_, z.own, fun a o e h => hh _ _ (z.keep a o e h), fun a e => z.thr a (th a e), z.par⟩
  rcases fn a o e with h | h
  · exact z.fnw a o h
  · exact .inr (.inr h)
theorem updThr {H : Hp} {d : Addr} {o : HO} (n : H d = none) : ∀ a, upd H d o a = none → H a = none := fun a e => by
  by_cases h : a = d
  · rw [h]; exact n
  · rwa [upd_ne h] at e
/-- something new stands in the heap, which nobody knows -/
theorem ZS.put {d : Addr} {o : HO} (s : ZS m c ρ T σ tv H) (n : H d = none) : ZS m c ρ T σ tv (upd H d o) := by
  obtain ⟨F, A, B, z⟩ := s
  exact ⟨F, A, B, z.grow (updSame n) (Same.refl _) (fun b x e => updSame n _ _ (z.sub _ _ e)) z.nf (fun _ _ h => .inl h) (updThr n)⟩
end
end Z

set_option Elab.async false
set_option linter.all false
set_option maxRecDepth 100000
set_option maxHeartbeats 4000000
/-! Z38: try that keeps what it caught; calls that may raise; raise of own classes. -/
namespace Z
open PySem PySem.Spec PyProof.Rows L2
section
variable {m : M} {c : Cz} {ρ : Env} {T : List D} {σ : Sl} {tv : List V} {H : Hp}
end
section
variable {X : Cx} {W : WX} {kp : List Nat} {x n : Str} {cv : Value} {i : Nat} {body suite : List Stmt} {b₀ : Stmt} {np pos pos' : Pos} {f g : SF} {tab : List (Str × Bool)}
end
/-! ### calls -/
section
variable {X : Cx} {W : WX} {k : Nat} {x : Str} {ps : List Str} {φ : Fn} {p pos : Pos} {e : Expr} {es : List Expr} {os : List (Bool × Opd)}
theorem FnOk.mono {P : Program} {w : World} {K : PySem.W.Frag} {mg : Str → Option Value} {base : Heap} {CX CX' : CXT} {f : Addr} {fd : FuncData} {sp : Sp} (h : ∀ outer H s E u s', CX outer H s E u s' → CX' outer H s E u s') (F : FnOk P w K mg base CX k f fd ps sp) : FnOk P w K mg base CX' k f fd ps sp :=
  ⟨F.len, fun A outer s H args us vs Q E hr e0 b r q => codeAny_mono (F.run A outer s H args us vs Q E hr e0 b r q) fun r s' z => by
    cases r with
    | error e => exact h _ _ _ _ _ _ z
    | ok fl => cases fl <;> exact z⟩
end
end Z

set_option Elab.async false
set_option linter.all false
set_option maxRecDepth 100000
set_option maxHeartbeats 4000000
/-! Z39: isinstance, fields of a caught exception; raise; a def that is handed in. -/
namespace Z
open PySem PySem.Spec PyProof.Rows L2
/-! ### isinstance -/
section
variable {X : Cx} {W : WX} {pos q1 q2 : Pos} {p : Bool} {e ce : Expr} {cs : List Expr} {o : Opd} {tab : List (Str × Bool)} {c : V} {cv : Value} {vcs : List V} {cvs : List Value} {k : Nat}
end
end Z

set_option Elab.async false
set_option linter.all false
set_option maxRecDepth 100000
set_option maxHeartbeats 4000000
/-! Z40: fields of a caught exception; a def that is handed in; raise of own classes. -/
namespace Z
open PySem PySem.Spec PyProof.Rows L2

/-! ### e.f -/
section
variable {X : Cx} {W : WX} {pos : Pos} {p : Bool} {e : Expr} {o : Opd} {cl : List Str} {n : Str}
end
/-! ### a def that is handed in -/
section
variable {X : Cx} {W : WX} {k : Nat} {x : Str} {p pos : Pos} {e : Expr} {es : List Expr} {os : List (Bool × Opd)} {i : Nat} {tab : Str → Option Fn} {n : Nat} {t : TA}
end
/-! ### raise of own classes -/
section
variable {X : Cx} {p p1 p2 pos : Pos} {e : Expr} {es : List Expr} {ta : TA} {C : Addr} {x : Str}
end
def asAt : D → Option At
  | .at a => some a
  | _ => none
def allAt : List D → Option (List At)
  | [] => some []
  | d :: ds => (asAt d).bind fun a => (allAt ds).map (a :: ·)
/-- raise x(es) -/
def zRaise (x : Str) (fs : List Str) (es : List EF) : SF := fun ρ => (evL es ρ).bind fun ds ρ' => match allAt ds with
  | some as => if as.length = fs.length then .ex ⟨x, (fs.zip as).reverse⟩ ρ' else .stuck
  | none => .stuck
section
variable {X : Cx} {W : WX} {kp : List Nat} {x m : Str} {C fI : Addr} {k : Nat} {fd : FuncData} {ps fs : List Str} {e : Expr} {es : List Expr} {ops : List (Bool × Opd)} {gs : List EF} {p pos pos' p2 : Pos}
end
end Z

set_option Elab.async false
set_option linter.all false
set_option maxRecDepth 100000
set_option maxHeartbeats 4000000
/-! Z41: what is asked of the module's own exception classes; their __init__; defs that may raise. -/
namespace Z
open PySem PySem.Spec PyProof.Rows L2

/-! ### tests of the written part -/
section
variable {K : PySem.W.Frag} {mg : Str → Option Value} {x y n : Str} {b : Bool} {ys : List Str} {T : String}
end
/-! ### an own __init__ -/
section
variable {P : Program} {w : World} {K : PySem.W.Frag} {mg : Str → Option Value} {base : Heap} {qual m f1 f2 : Str} {st : Stmt} {f C : Addr} {fd : FuncData} {k : Nat} {N : List Str} {se : Str}
end
/-! ### defs that may raise -/
end Z

set_option Elab.async false
set_option linter.all false
set_option maxRecDepth 100000
set_option maxHeartbeats 4000000
/-! Z42: the plain side of defs that may raise. -/
namespace Z
open PySem
def wpx {α : Type} (f : Env → R α) (ρ : Env) (Q : α → Env → Prop) (Ex : EX → Env → Prop) : Prop := match f ρ with
  | .ok a ρ' => Q a ρ'
  | .ex e ρ' => Ex e ρ'
  | .stuck => False
def satx (φ : Fn) (ds : List D) (Q : D → Env → Prop) (Ex : EX → Env → Prop) : Prop := match φ ds with
  | some (.ret d bk) => Q d bk
  | some (.exc e bk) => Ex e bk
  | none => False
def nxtx (fl : Fl) (g : SF) (ρ : Env) (Q : Fl → Env → Prop) (Ex : EX → Env → Prop) : Prop := match fl with
  | .nx => wpx g ρ Q Ex
  | .bk => Q .bk ρ
  | .ct => Q .ct ρ
  | .rt d => Q (.rt d) ρ
section
variable {α β : Type} {f g : Env → R α} {ρ : Env} {Q : α → Env → Prop} {Ex : EX → Env → Prop}
theorem wpx_of (h : wp f ρ Q) : wpx f ρ Q Ex := by
  unfold wp at h
  unfold wpx
  cases e : f ρ <;> rw [e] at h
  · exact h
  · exact h.elim
  · exact h.elim
theorem wpx_mono {Q' : α → Env → Prop} {Ex' : EX → Env → Prop} (h : wpx f ρ Q Ex) (k : ∀ a ρ, Q a ρ → Q' a ρ) (kx : ∀ e ρ, Ex e ρ → Ex' e ρ) : wpx f ρ Q' Ex' := by
  unfold wpx at h ⊢
  cases e : f ρ <;> rw [e] at h
  · exact k _ _ h
  · exact kx _ _ h
  · exact h
theorem wpx_bnd {k : α → Env → R β} {Q : β → Env → Prop} : wpx (fun ρ => (f ρ).bind k) ρ Q Ex ↔ wpx f ρ (fun a ρ' => wpx (k a) ρ' Q Ex) Ex := by
  unfold wpx
  dsimp only
  cases f ρ <;> exact Iff.rfl
theorem wpx_bnd1 {k : α → Env → R β} {Q : β → Env → Prop} (h : wp f ρ fun a ρ' => wpx (k a) ρ' Q Ex) : wpx (fun ρ => (f ρ).bind k) ρ Q Ex := wpx_bnd.mpr (wpx_of h)
end
section
variable {f : EF} {sf sg : SF} {tf : TF} {ρ : Env} {fs : List EF} {os : List Opd} {Q : Fl → Env → Prop} {Ex : EX → Env → Prop} {φ : Fn} {ds : List D}
theorem nxtx_nx : nxtx .nx sg ρ Q Ex ↔ wpx sg ρ Q Ex := Iff.rfl
theorem nxtx_rt {d : D} : nxtx (.rt d) sg ρ Q Ex ↔ Q (.rt d) ρ := Iff.rfl
theorem wpx_zSeqX (h : wpx sf ρ (fun fl ρ' => nxtx fl sg ρ' Q Ex) Ex) : wpx (zSeq sf sg) ρ Q Ex :=
  wpx_bnd.mpr (wpx_mono h (fun fl ρ' q => by cases fl <;> exact q) fun _ _ q => q)
theorem wpx_zIfS (h : wp tf ρ fun b ρ' => br b (wpx sf ρ' Q Ex) (wpx sg ρ' Q Ex)) : wpx (zIfS tf sf sg) ρ Q Ex :=
  wpx_bnd1 (wp_mono h fun b ρ' q => by cases b <;> exact q)
theorem wpx_zSet {g : TgF} (h : wpx f ρ (fun d ρ' => tgp g d ρ' (Q .nx)) Ex) : wpx (zSet g f) ρ Q Ex :=
  wpx_bnd.mpr (wpx_mono h (fun d ρ' q => by
    unfold tgp at q
    unfold wpx
    dsimp only
    cases e : g d ρ' <;> rw [e] at q <;> exact q) fun _ _ q => q)
theorem wpx_zRet (h : wpx f ρ (fun d ρ' => Q (.rt d) ρ') Ex) : wpx (zRet f) ρ Q Ex := wpx_bnd.mpr h
theorem wpx_zEx (h : wpx f ρ (fun _ ρ' => Q .nx ρ') Ex) : wpx (zEx f) ρ Q Ex := wpx_bnd.mpr h
theorem wpx_zFor {src : IF} {g : TgF} (h : wp src ρ fun di ρ' => wpx (forL g sf di.2) ρ' Q Ex) : wpx (zFor src g sf) ρ Q Ex := wpx_bnd1 h
theorem wpx_zRaise {x : Str} {ns : List Str} (h : wp (evL fs) ρ fun ds ρ' => opt (allAt ds) fun as => as.length = ns.length ∧ Ex ⟨x, (ns.zip as).reverse⟩ ρ') : wpx (zRaise x ns fs) ρ Q Ex :=
  wpx_bnd1 (wp_mono h fun ds ρ' q => by
    unfold opt at q
    unfold wpx
    dsimp only
    cases e : allAt ds with
    | none => rw [e] at q; exact q
    | some as =>
      rw [e] at q
      dsimp only
      rw [if_pos q.1]
      exact q.2)
theorem wpx_raise0 {e : EX} (h : Ex e ρ) : wpx (fun ρ => (.ex e ρ : R Fl)) ρ Q Ex := h
theorem satx_mono {Q Q' : D → Env → Prop} {Ex' : EX → Env → Prop} (h : satx φ ds Q Ex) (k : ∀ d bk, Q d bk → Q' d bk) (kx : ∀ e bk, Ex e bk → Ex' e bk) : satx φ ds Q' Ex' := by
  unfold satx at h ⊢
  cases e : φ ds with
  | none => rw [e] at h; exact h
  | some r =>
    rw [e] at h
    cases r with
    | ret d bk => exact k _ _ h
    | exc x bk => exact kx _ _ h
def calx (φ : Fn) (r : List (D ⊕ Nat)) (ρ : Env) (Q : D → Env → Prop) (Ex : EX → Env → Prop) : Prop := opt (lendO r ρ) fun q => satx φ q.1 (fun d bk => Q d (giveO r bk q.2)) fun e bk => Ex e (giveO r bk q.2)
theorem callX_of {ρ1 : Env} {Q : D → Env → Prop} {r : List (D ⊕ Nat)} (h : lendO r ρ = some (ds, ρ1)) (k : satx φ ds (fun d bk => ∀ ρ', giveO r bk ρ1 = ρ' → Q d ρ') fun e bk => ∀ ρ', giveO r bk ρ1 = ρ' → Ex e ρ') : calx φ r ρ Q Ex :=
  opt_of h (satx_mono k (fun d bk z => z _ rfl) fun e bk z => z _ rfl)
end
end Z

set_option Elab.async false
set_option linter.all false
set_option maxRecDepth 100000
set_option maxHeartbeats 4000000
/-! Z43: str of nested data, at the law's own level; texts compared; the law's def called once. -/
namespace Z
open PySem PySem.Spec PyProof.Rows L2
def D.isNd : D → Bool
  | .nd _ _ => true
  | _ => false
/-- str of nested lists and tuples -/
def gStr (d : D) : Option D := if d.plain = true ∧ d.isNd = true ∧ d.py.showable = true ∧ d.py.hasDict = false ∧ d.py.depth ≤ 16 ∧ d.py.shown.length ≤ sizeLine then some (.at (.str d.py.shown)) else none
def rStr (K : PySem.W.Frag) : List V → Hp → VK → Prop := fun xs H Q => ∃ a d, xs = [.ref a] ∧ Dp K H (.ref a) d ∧ d.showable = true ∧ d.hasDict = false ∧ d.depth ≤ 16 ∧ d.shown.length ≤ sizeLine ∧ Q (.str d.shown) H
theorem call_strD {X : Cx} (hgd : X.A.guards = some []) (hu : X.A.units + 64 < cLine) : CallR X (.type "str") (rStr X.K) := by
  intro pins s σ H xs us Q I r h
  obtain ⟨a, d, rfl, hd, h1, h2, h3, h4, q⟩ := h
  obtain ⟨u, rfl, r1⟩ := vals1 r
  obtain rfl : u = Value.ref a := r1
  obtain ⟨as, hr⟩ := Dp.reads I d _ _ hd rfl
  exact PySem.str_of_reads hr h1 (fun z => by rw [h2] at z; cases z) hgd (by omega) (fun _ _ e => e) (fun h' u tk hk => ⟨.str _, H, I.kept hk, ⟨_, rfl⟩, q⟩) h4
theorem lr_str {m : M} : LR m (rStr m.K) (one1 gStr) := by
  intro F H vs ds A d Q sm rs hg y
  replace hg := one1_of hg
  obtain ⟨x, rfl, hg⟩ := hg
  obtain ⟨v, rfl, A1, r1⟩ := reps1 rs
  unfold gStr at hg
  split at hg
  · rename_i hz
    obtain ⟨z1, z2, z3, z4, z5, z6⟩ := hz
    cases hg
    have hp := r1.dp sm z1
    cases x with
    | «at» a => cases z2
    | nd k xs =>
      have hv : ∃ a, v = .ref a := by
        cases r1 with
        | fz h1 h2 h3 h4 => exact ⟨_, rfl⟩
        | ow h1 h2 h3 => exact ⟨_, rfl⟩
      obtain ⟨a, rfl⟩ := hv
      exact ⟨a, _, rfl, hp, z3, z4, z5, z6, y.atom sm⟩
  · cases hg
def gNeS : List D → Option D
  | [.at (.str x), .at (.str y)] => some (.at (.bl (!decide (x = y))))
  | _ => none
theorem dec_strV {x y : Str} : decide (V.str x = V.str y) = decide (x = y) := by
  by_cases h : x = y
  · subst h
    simp
  · rw [decide_eq_false h, decide_eq_false fun e => h (by cases e; rfl)]
theorem lr_neS {m : M} : LR m (lift2 rNe) gNeS := by
  intro F H vs ds A d Q sm rs hg y
  unfold gNeS at hg
  split at hg
  · obtain ⟨x1, y1, rfl, ⟨_, r1⟩, _, r2⟩ := reps2 rs
    cases hg
    cases r1
    cases r2
    refine ⟨rfl, ?_⟩
    show Q (.bl (!decide (V.str _ = V.str _))) H
    rw [dec_strV]
    exact y.atom sm
  · cases hg
section
variable {X : Cx} {W : WX} {pos q1 : Pos} {p p1 p2 : Bool} {o o1 o2 : Opd} {a b : Expr}
theorem ze_strOf (hgd : X.A.guards = some []) (hu : X.A.units + 64 < cLine) (hg : Gl X "str") (hm : X.mg "str" = none) (ha : ZO X W p a o) (he : starEach [a] X.env = (false, eval a X.env) :: starEach [] X.env := by rfl) (hpl : (backTo pos (starEach [] X.env)).any (·.1) = false := by rfl) : ZE X W (p && true) (.Call (.Name "str" q1) [a] [] pos) (zOps (one1 gStr) [o]) :=
  ze_callTy (ps := [(p, o)]) (call_strD hgd hu) lr_str hg hm PyProof.Rows.boot_str (zos_cons ha zos_nil he) (by decide) (by decide) he hpl
theorem zt_neS (ha : ZO X W p1 a o1) (hb : ZO X W p2 b o2) : ZT X W (.Compare a [.NotEq] [b] pos) (evB (zOps gNeS [o1, o2])) := zt_cmp (c := a) op_ne lr_neS ha hb (nomark _)
end
section
variable {Q : D → Prop} {x y : Str}
end
/-! ### a def called at one place -/
theorem run_at {CX : CXT} {P : Program} {w : World} {K : PySem.W.Frag} {mg : Str → Option Value} {base : Heap} {k : Nat} {x qual : Str} {params : Arguments} {body : List Stmt} {scope : Scope} {dvs : List V} {kws : List (Str × V)} {f : Addr} {fd : FuncData} {N ps : List Str} {A : Around} {outer : List PySem.Env} {s : Shared} {H : Hp} {args : Args} {us : List Value} {vs : List V} {Q : VK} {E : XK}
    (F : FunD K x qual params body scope dvs kws f fd) (S : FnScope N ps scope) (hr : Room (k + 1) A) (e0 : Env0 P w K mg base A outer s H) (hb : BindsTo s fd args (ps.zip us)) (r : Vals vs us) (hl : vs.length = ps.length)
    (hbody : ∀ cdv : Value, ∃ t, PSs (cxOf CX P w K mg base N qual scope f cdv A outer s H E) body t ∧ t { nx := fun _ H' => Q .non H', rt := Q } (start N vs) H) :
    codeAny (model P w) A (.call (.ref f) args) (CR CX outer P w H s Q E) s := by
  obtain ⟨oc, od, dV, kV, doc, pm, an, cdv, ct, osl, rfl, lk, hcd, _, _⟩ := F.ex
  have KX : K.In s.heap := e0.mod.kin.keeps fun b o e => (e0.bs b o e).1
  have lim : s.heap.NoLimit := e0.mod.nolimit.keeps fun b o e => (e0.bs b o e).1
  refine codeAny_call_function hr.depth (KX _ _ lk) rfl S.co S.gen rfl (PySem.W.codeRec_of KX hcd) (hb _ _ _ _ ?_)
  refine wpAny_newFunctionEnv_cells S.kind (fun y hy => ?_) fun env he s1 z => ?_
  · rcases S.par y.1 (List.of_mem_zip hy).1 with q | q
    · exact .inl q
    · exact .inr ⟨q, PySem.W.cellsFrom_some _ _ _ (.inl q)⟩
  · subst he
    refine ⟨lim.keeps z.toInCall.keep, codeAny_func ?_⟩
    obtain ⟨t, ht, hq⟩ := hbody cdv
    have I : Inv (cxOf CX P w K mg base N qual scope f cdv A outer s H E) [] (start N vs) H s1 := inv_start S hr.hd e0 hl r z
    refine wpAny_mono (ht.run [] s1 (start N vs) H _ I hq) (fun fl s' hs => ?_) fun e s' hs => hs
    cases fl with
    | ret u =>
      obtain ⟨v, σ', H', J, rv, q⟩ := hs
      exact ⟨v, H', J.os, J.bare, J.base, J.hok, rv, q⟩
    | next =>
      obtain ⟨σ', H', J, q⟩ := hs
      exact ⟨V.non, H', J.os, J.bare, J.base, J.hok, rfl, q⟩
    | brk =>
      obtain ⟨_, _, _, q⟩ := hs
      exact q.elim
    | cont =>
      obtain ⟨_, _, _, q⟩ := hs
      exact q.elim
theorem run_atD {P : Program} {w : World} {K : PySem.W.Frag} {mg : Str → Option Value} {base : Heap} {k : Nat} {x : Str} {st : Stmt} {f : Addr} {fd : FuncData} {N ps : List Str} {kp : List Nat} {b : SF} {A : Around} {outer : List PySem.Env} {s : Shared} {H : Hp} {args : Args} {us : List Value} {vs : List V} {Q : VK} {E : XK}
    (F : FnP K x st f fd) (S : FnScope N ps (defScope st)) (hr : Room (k + 1) A) (e0 : Env0 P w K mg base A outer s H) (hbi : BindsTo s fd args (ps.zip us)) (r : Vals vs us)
    (hb : ∀ (cdv : Value), ZB (cxOf CX0 P w K mg base N x (defScope st) f cdv A outer s H E).nox W0 kp (defBody st) b) (h : spZ ⟨P, w, K, mg⟩ ps.length (fnOf0 N.length kp b) vs H Q E) :
    codeAny (model P w) A (.call (.ref f) args) (CR CX0 outer P w H s Q E) s := by
  have hpl : ps.length ≤ N.length := by have := congrArg List.length S.pre; rw [List.length_take] at this; omega
  obtain ⟨F0, ds, A0, hl, sm, rr, nd, nf, q⟩ := h
  refine run_at (CX := CX0) (k := k) F S hr e0 hbi r hl fun cdv => ⟨_, PSs.nox (hb cdv), ?_⟩
  exact fn_run (W := W0) (m := ⟨P, w, K, mg⟩) (n := N.length) (kp := kp) (b := b) (E := fun _ _ _ => False) (fun _ _ _ _ z => z) (by omega) sm rr nd nf (Q := Q) (by
    cases e : fnOf0 N.length kp b ds with
    | none => rw [e] at q; exact q.elim
    | some fr =>
      rw [e] at q
      obtain ⟨e2, d, bk, rfl⟩ := fnOf0_ret e
      rw [e2]
      exact q)
/-- the law's promise from its def's run at the caller alone -/
theorem law_at {P : Program} {w : World} {K : PySem.W.Frag} {mg mb : Str → Option Value} {fa a : Addr} {s₁ : Shared} {vs : List Value} {ns : List Int}
    (KX : K.In s₁.heap) (hns : s₁.heap.Ns mainGlobals mg) (hb : s₁.heap.Ns builtinsNs mb) (hbb : ∀ x : Str, x ≠ "__name__" → mb x = bootBuiltins x) (hlim : s₁.heap.NoLimit) (hg : s₁.gens = #[])
    (ha : s₁.heap.get? a = some { cls := .type "list", data := .seq vs.toArray }) (hi : IntsAre vs ns) (hl : ns.length ≤ sizeLine)
    (F : ∀ (base : Heap) (H : Hp), K.In base → base.Ns mainGlobals mg → Env0 P w K mg base callerA [] s₁ H → SqL K H a (ns.map V.int) → codeAny (model P w) callerA (.call (.ref fa) ⟨[.ref a], []⟩) (CR CX0 [] P w H s₁ (fun v _ => v = .bl true) fun _ _ _ => False) s₁) :
    codeAny (model P w) callerA (.call (.ref fa) ⟨[.ref a], []⟩) (fun r s' => r = .ok (.ret (.bool true)) ∧ OldK s₁.heap s'.heap ∧ s'.os = s₁.os ∧ AllBare s'.gens) s₁ := by
  -- what is tracked: the script at most, as it is
  suffices core : ∀ H : Hp, (∀ b u, H b = some u → b = a ∧ K.lookup a = none ∧ u = .frz { cls := .type "list", data := .seq vs.toArray } (.lst (ns.map V.int))) → SqL K H a (ns.map V.int) → HOk P w H s₁.heap →
      codeAny (model P w) callerA (.call (.ref fa) ⟨[.ref a], []⟩) (fun r s' => r = .ok (.ret (.bool true)) ∧ OldK s₁.heap s'.heap ∧ s'.os = s₁.os ∧ AllBare s'.gens) s₁ by
    cases hk : K.lookup a with
    | some o =>
      have e := KX a o hk
      rw [ha] at e
      cases e
      exact core (fun _ => none) (fun b u z => nomatch (show (none : Option HO) = some u from z)) (.inr ⟨_, vs.toArray, _, hk, rfl, rfl, rfl, by rw [List.size_toArray, hi.length]; exact hl, by simpa using vals_ints hi⟩) fun b u z => nomatch (show (none : Option HO) = some u from z)
    | none =>
      refine core (fun b => if b = a then some (.frz { cls := .type "list", data := .seq vs.toArray } (.lst (ns.map V.int))) else none) (fun b u z => ?_) (.inl (.inr ⟨{ cls := .type "list", data := .seq vs.toArray }, if_pos rfl⟩)) fun b u z => ?_
      · by_cases hb : b = a
        · cases (if_pos hb).symm.trans z
          exact ⟨hb, hk, rfl⟩
        · cases (if_neg hb).symm.trans z
      · by_cases hb : b = a
        · cases (if_pos hb).symm.trans z
          subst hb
          exact ⟨ha, by rw [List.length_map]; exact hl, vs, _, vals_ints hi, ha⟩
        · cases (if_neg hb).symm.trans z
  intro H hO hS hok
  have free : ∀ {b : Addr} {o : Obj}, K.lookup b = some o → H b = none := fun {b o} e => by
    cases q : H b with
    | none => rfl
    | some u =>
      obtain ⟨e1, e2, _⟩ := hO b u q
      rw [e1, e2] at e
      cases e
  have dfree : ∀ {b : Addr} {o : Obj} {es : Array DictEntry} {ep : Nat}, s₁.heap.get? b = some o → o.data = .dict es ep → H b = none := fun {b o es ep} e d => by
    cases q : H b with
    | none => rfl
    | some u =>
      obtain ⟨e1, _, _⟩ := hO b u q
      rw [e1, ha] at e
      cases e
      cases d
  have nsK : ∀ {b : Addr} {m : Str → Option Value}, s₁.heap.Ns b m → (hidT s₁.heap H).Ns b m := fun {b m} ⟨o, es, ep, e, d, r⟩ => ⟨o, es, ep, hidT_get e (dfree e d), d, r⟩
  have hKb : K.In (hidT s₁.heap H) := fun b o e => hidT_get (KX b o e) (free e)
  have hM : Mod K mg (hidT s₁.heap H) := ⟨hKb, nsK hns, ⟨mb, nsK hb, hbb⟩, let ⟨mc, h1, h2⟩ := hlim; ⟨mc, nsK h1, h2⟩⟩
  have e0 : Env0 P w K mg (hidT s₁.heap H) callerA [] s₁ H := ⟨rfl, hM, fun b o e => of_hidT e, Nat.le_of_eq (hidT_size _ _), trivial, fun b hb => absurd (show b ∈ ([] : List Addr) from hb) (by simp), hok, .of_eq hg⟩
  refine codeAny_mono (F _ H hKb (nsK hns) e0 hS) fun r s' h => ?_
  cases r with
  | error e => exact h.elim
  | ok fl =>
    cases fl with
    | next => exact h.elim
    | brk => exact h.elim
    | cont => exact h.elim
    | ret u =>
      obtain ⟨v, H', os, bare, un, hok', r', q⟩ := h
      have q : v = .bl true := q
      subst q
      obtain rfl : u = Value.bool true := r'
      refine ⟨rfl, OldK.of_keep fun b o e => ?_, os, bare⟩
      cases q : H b with
      | none => exact un.keep b o e q (fun z => absurd (show b ∈ ([] : List Addr) from z) (by simp)) (by simp)
      | some u =>
        obtain ⟨_, _, rfl⟩ := hO b u q
        obtain ⟨e2, _⟩ := hok' b _ (un.frzs b _ _ q)
        obtain ⟨e1, _⟩ := hok b _ q
        rw [e] at e1
        cases e1
        exact e2
theorem walk_at {l : PySem.W.OpenLaw} {n : Nat} {q : Program} {loose : List Str} {XP : (Str → Option Value) → Heap → Prop} {YP : World → Heap → Prop} {d : DefRec} (hn : l.most = some n) (hn2 : n ≤ sizeLine) (hdf : d.params.defaults = [])
    (F : ∀ (w : World) (mg : Str → Option Value) (fa : Addr) (h : Heap), YP w h → h.Ns mainGlobals mg → mg d.name = some (.ref fa) →
      ∃ K : PySem.W.Frag, K.In h ∧ ∀ (base : Heap) (s : Shared) (H : Hp) (a : Addr) (ns : List Int), ns.length ≤ n → K.In base → base.Ns mainGlobals mg → Env0 l.prog w K mg base callerA [] s H → SqL K H a (ns.map V.int) → codeAny (model l.prog w) callerA (.call (.ref fa) ⟨[.ref a], []⟩) (CR CX0 [] l.prog w H s (fun v _ => v = .bl true) fun _ _ _ => False) s) :
    PySem.W.WalkO q loose XP YP l.row.toRowW d [] (fun f vs => PySem.call f vs) := by
  refine Att.attach_call hn hdf fun w s₀ s₁ mg mb fa o pm cd doc a vs ns G Y ho hd hcd hmg hobj hints hlen hg => ?_
  obtain ⟨K, KX, hF⟩ := F w mg fa _ Y G.T.g hmg
  exact law_at KX G.T.g G.T.b G.T.builtins G.T.nolimit hg hobj hints (Nat.le_trans hlen hn2) fun base H h1 h2 h3 h4 => hF base s₁ H a ns hlen h1 h2 h3 h4
end Z

set_option Elab.async false
set_option linter.all false
set_option maxRecDepth 100000
set_option maxHeartbeats 4000000
/-! Z44: how long a text str makes. -/
namespace Z
open PySem L2
/-- str can be made of it, of at most so many signs -/
structure Sho (L : Nat) (d : D) : Prop where
  sh : d.py.showable = true
  ln : d.py.shown.length ≤ L
theorem Sho.mono {L M : Nat} {d : D} (h : Sho L d) (k : L ≤ M) : Sho M d := ⟨h.sh, Nat.le_trans h.ln k⟩
theorem Sho.int {i : Int} (h : i.natAbs < 10 ^ 20) : Sho 21 (.at (.int i)) := by
  refine ⟨?_, ?_⟩
  · show decide (i.natAbs.log2 < 1920) = true
    refine decide_eq_true ?_
    by_cases h0 : i.natAbs = 0
    · rw [h0]
      decide
    · refine (Nat.log2_lt h0).mpr (Nat.lt_trans h (by decide +kernel))
  · have e := int_text_length_le10 (a := i) (k := 20) (by decide) h
    show (Str.ofString (toString i)).length ≤ 21
    rw [ofString_length]
    exact e
theorem Sho.non : Sho 4 (.at .non) := ⟨rfl, by decide +kernel⟩
theorem sho_sum {L : Nat} : ∀ {xs : List D}, (∀ x ∈ xs, Sho L x) → ((PyData.shownAll (pyL xs)).map (·.length)).sum ≤ L * xs.length ∧ (PyData.shownAll (pyL xs)).length = xs.length ∧ PyData.showableAll (pyL xs) = true
  | [], _ => ⟨by simp [pyL, PyData.shownAll], by simp [pyL, PyData.shownAll], by simp [pyL, PyData.showableAll]⟩
  | x :: xs, h => by
    obtain ⟨h1, h2, h3⟩ := sho_sum (xs := xs) fun y hy => h y (List.mem_cons_of_mem _ hy)
    obtain ⟨h4, h5⟩ := h x List.mem_cons_self
    rw [pyL, PyData.shownAll, PyData.showableAll, List.map_cons, List.sum_cons, List.length_cons, List.length_cons, h4, h3, h2]
    refine ⟨?_, rfl, rfl⟩
    rw [Nat.mul_add, Nat.mul_one]
    omega
theorem Sho.tup {L : Nat} {xs : List D} (h : ∀ x ∈ xs, Sho L x) : Sho ((L + 2) * xs.length + 3) (.nd .tup xs) := by
  obtain ⟨h1, h2, h3⟩ := sho_sum h
  refine ⟨by show PyData.showable (.tuple (pyL xs)) = true; rw [PyData.showable]; exact h3, ?_⟩
  show (PyData.shown (.tuple (pyL xs))).length ≤ _
  rw [PyData.shown]
  have := tupleText_len_le (PyData.shownAll (pyL xs))
  rw [h2] at this
  rw [Nat.add_mul]
  omega
theorem Sho.lst {L : Nat} {o : Bool} {xs : List D} (h : ∀ x ∈ xs, Sho L x) : Sho ((L + 2) * xs.length + 3) (.nd (.lst o) xs) := by
  obtain ⟨h1, h2, h3⟩ := sho_sum h
  refine ⟨by show PyData.showable (.list (pyL xs)) = true; rw [PyData.showable]; exact h3, ?_⟩
  show (PyData.shown (.list (pyL xs))).length ≤ _
  rw [PyData.shown]
  have := listText_len_le (PyData.shownAll (pyL xs))
  rw [h2] at this
  rw [Nat.add_mul]
  omega
theorem o_str {n L : Nat} {d : D} {Q : D → Prop} (hf : Fit n d) (hs : Sho L d) (hn : n ≤ 16) (hd : d.isNd = true) (hL : L ≤ 1000000) (k : Q (.at (.str d.py.shown))) : opt (one1 gStr [d]) Q := by
  refine opt_of (b := .at (.str d.py.shown)) ?_ k
  show gStr d = _
  unfold gStr
  rw [if_pos ⟨hf.pl, hd, hs.sh, PyData.hasDict_of_canLay _ hf.ly, Nat.le_trans hf.dp hn, Nat.le_trans hs.ln (Nat.le_trans hL (by rw [sizeLine_eq]; decide))⟩]
end Z

set_option Elab.async false
set_option linter.all false
set_option maxRecDepth 100000
set_option maxHeartbeats 4000000
/-! Z45: a law that calls defs that may raise, where none does. -/
namespace Z
open PySem PySem.Spec PyProof.Rows L2
section
variable {X : Cx} {W : WX} {k : Nat} {x : Str} {ps : List Str} {φ : Fn} {p pos : Pos} {e : Expr} {es : List Expr} {os : List (Bool × Opd)} {os' : List Opd}
end
end Z

set_option Elab.async false
set_option linter.all false
set_option maxRecDepth 100000
set_option maxHeartbeats 4000000
/-! Z46: f(..).index(x) of a list that comes back. -/
namespace Z
open PySem PySem.Spec PyProof.Rows L2
def fstIx (x : D) : List D → Nat → Option Nat
  | [], _ => none
  | z :: zs, i => if eqD z x = true then some i else fstIx x zs (i + 1)
section
variable {X : Cx} {W : WX} {p1 p2 : Bool} {o e : Expr} {f : EF} {o2 : Opd} {apos cpos : Pos}
end
section
variable {f : EF} {o2 : Opd} {ρ : Env} {Q : D → Env → Prop} {Ex : EX → Env → Prop}
end
end Z

set_option Elab.async false
set_option linter.all false
set_option maxRecDepth 100000
set_option maxHeartbeats 4000000
/-! Z47: min, max of a list of numbers. -/
namespace Z
open PySem PySem.Spec PyProof.Rows L2
section
variable {X : Cx} {W : WX} {p : Bool} {a : Expr} {o : Opd} {q1 pos : Pos}
end
end Z

set_option Elab.async false
set_option linter.all false
set_option maxRecDepth 100000
set_option maxHeartbeats 4000000
/-! Z48: a chain of comparisons as a test. -/
namespace Z
open PySem PySem.Spec PyProof.Rows L2
section
variable {X : Cx} {W : WX} {pos : Pos} {p p1 p2 p3 : Bool} {a b e : Expr} {f f1 f2 f3 : EF}
end
end Z

set_option Elab.async false
set_option linter.all false
set_option maxRecDepth 100000
set_option maxHeartbeats 4000000
/-! Z49: zip of a tuple and a list. -/
namespace Z
open PySem PySem.Spec PyProof.Rows L2
/-- an iterator of a list (b) or of a tuple, at its k-th item -/
def ZAt (b : Bool) (h : Heap) (it l : Addr) (k : Nat) (xs : Array Value) : Prop :=
  if b = true then h.IsListIter it l k ∧ h.IsList l xs else h.IsTupleIter it l k ∧ h.IsTuple l xs
theorem ZAt.keep {b : Bool} {h h' : Heap} {it l : Addr} {k : Nat} {xs : Array Value} (a : ZAt b h it l k xs) (e1 : ∀ o, h.get? it = some o → h'.get? it = some o) (e2 : ∀ o, h.get? l = some o → h'.get? l = some o) : ZAt b h' it l k xs := by
  unfold ZAt at a ⊢
  cases b
  · exact ⟨a.1.at e1, a.2.at e2⟩
  · exact ⟨a.1.at e1, a.2.at e2⟩
section
variable {prog : Program} {w : World} {A : Around} {E : Value → Shared → Prop} {s : Shared} {b b1 b2 : Bool}
end
section
variable {prog : Program} {w : World} {A : Around} {E : Value → Shared → Prop} {s : Shared}
end
def twoM : D → D → Option (List D × List D)
  | .nd .tup xs, .nd (.lst _) ys => some (xs, ys)
  | _, _ => none
def srcM (t : List D × List D) : List D × List D := ([.nd (.lst false) (frzL t.2), .nd .tup (frzL t.1)], zipD (frzL t.1) (frzL t.2))
def zZipM (f g : EF) : IF := fun ρ => (f ρ).bind fun a ρ1 => (g ρ1).bind fun b ρ2 => match twoM a b with
  | some t => .ok (srcM t) ρ2
  | none => .stuck
section
variable {f g : EF} {ρ : Env}
theorem wp_zZipM {Q : List D × List D → Env → Prop} : wp (zZipM f g) ρ Q ↔ wp f ρ fun a ρ1 => wp g ρ1 fun b ρ2 => opt (twoM a b) fun t => Q (srcM t) ρ2 := wp_bnd.trans (wp_ext fun a ρ1 => wp_bnd.trans (wp_ext fun b ρ2 => by
  unfold opt wp
  dsimp only
  cases twoM a b <;> exact Iff.rfl))
theorem opt_twoM {o : Bool} {xs ys : List D} {Q : List D × List D → Prop} (k : Q (xs, ys)) : opt (twoM (.nd .tup xs) (.nd (.lst o) ys)) Q := k
end
section
variable {m : M}
end
section
variable {X : Cx} {W : WX} {e1 e2 : Expr} {p1 p2 : Bool} {f g : EF} {p pos tpos : Pos} {elts : List Expr} {kk : Nat}
end
end Z

set_option Elab.async false
set_option linter.all false
set_option maxRecDepth 100000
set_option maxHeartbeats 4000000
/-! Z50: {k: v}, a dict display of one entry whose key is a tuple. -/
namespace Z
open PySem PySem.Spec PyProof.Rows L2
def dispK1 : D → D → Option D
  | .nd .tup ys, v => (D.nd .tup ys).key.bind fun j => if j.depth ≤ 8 ∧ (D.nd .tup ys).pure = true ∧ v.pure = true then some (.nd (.dn true [j]) [v]) else none
  | _, _ => none
/-- {k: v} -/
def zDisp1 (f g : EF) : EF := fun ρ => (f ρ).bind fun k ρ1 => (g ρ1).bind fun v ρ2 => match dispK1 k v with
  | some r => .ok r ρ2
  | none => .stuck
section
variable {X : Cx} {W : WX} {e1 e2 : Expr} {p1 p2 : Bool} {f g : EF} {pos : Pos}
end
section
variable {f g : EF} {ρ : Env}
theorem wp_zDisp1 {Q : D → Env → Prop} : wp (zDisp1 f g) ρ Q ↔ wp f ρ fun k ρ1 => wp g ρ1 fun v ρ2 => opt (dispK1 k v) fun r => Q r ρ2 := wp_bnd.trans (wp_ext fun a ρ1 => wp_bnd.trans (wp_ext fun b ρ2 => by
  unfold opt wp
  dsimp only
  cases dispK1 a b <;> exact Iff.rfl))
end
end Z

set_option Elab.async false
set_option linter.all false
set_option maxRecDepth 100000
set_option maxHeartbeats 4000000
/-! Z51: xs.pop(i). -/
namespace Z
open PySem PySem.Spec PyProof.Rows L2
section
variable {X : Cx} {W : WX} {o e : Expr} {apos cpos : Pos} {i : Nat} {p : List Stp} {f : EF} {p1 : Bool}
end
end Z

set_option Elab.async false
set_option linter.all false
set_option maxRecDepth 100000
set_option maxHeartbeats 4000000
/-! Z52: tuple(reversed(xs)); xs.insert(i, y). -/
namespace Z
open PySem PySem.Spec PyProof.Rows L2
def revT : D → Option D
  | .nd (.lst _) xs => if pureL xs = true then some (.nd .tup xs.reverse) else none
  | _ => none
/-- tuple(reversed(xs)) -/
def zTupRev (f : EF) : EF := fun ρ => (f ρ).bind fun d ρ1 => match revT d with
  | some r => .ok r ρ1
  | none => .stuck
section
variable {X : Cx} {W : WX} {p1 : Bool} {e : Expr} {f : EF} {p p2 pos pos2 : Pos}
end
section
variable {f : EF} {ρ : Env}
theorem wp_zTupRev {Q : D → Env → Prop} : wp (zTupRev f) ρ Q ↔ wp f ρ fun d ρ1 => opt (revT d) fun r => Q r ρ1 := wp_bnd.trans (wp_ext fun a ρ1 => by
  unfold opt wp
  dsimp only
  cases revT a <;> exact Iff.rfl)
end
end Z

set_option Elab.async false
set_option linter.all false
set_option maxRecDepth 100000
set_option maxHeartbeats 4000000
/-! Z53: dicts whose keys are tuples, walked, as lists; sorted and min of data. -/
namespace Z
open PySem PySem.Spec PyProof.Rows L2

/-! ### the dict as it lies -/
section
variable {X : Cx} {pins : List (Addr × Obj)} {σ : Sl} {H : Hp} {s : Shared}
theorem dn_raw (I : Inv X pins σ H s) {a : Addr} {o : Obj} {es : List (NestedKey × Addr × V)} (h : H a = some (dnO X.prog X.w a o es)) :
    s.heap.get? a = some o ∧ o.ExactDict ∧ ∃ (arr : Array DictEntry) (ep : Nat), o.data = .dict arr ep ∧ arr.size = es.length ∧
      ∀ (i : Nat) (e : NestedKey × Addr × V), es[i]? = some e → ∃ en : DictEntry, arr[i]? = some en ∧ en.key = .ref e.2.1 := by
  obtain ⟨⟨arr, ep, xs, h1, h2, h3, h4, h5, h6⟩, _⟩ := (show ObjOk X.prog X.w H s.heap a (dnO X.prog X.w a o es) from I.hok a _ h)
  refine ⟨h1, h2, arr, ep, h3, by rw [size_of_entries h4]; exact (Paired.length h5).symm, fun i e he => ?_⟩
  obtain ⟨b, hb, e1, e2, _⟩ := paired_get h5 he
  have q := entry_at h4 i
  rw [hb] at q
  exact ⟨_, q, by show Value.ref b.2.1 = _; rw [e2]⟩
end
def asDn : D → Option (List NestedKey × List D)
  | .nd (.dn _ ks) xs => some (ks, xs)
  | _ => none
def zDnI (f : EF) : IF := fun ρ => (f ρ).bind fun d ρ' => match asDn d with
  | some p => .ok ([.nd (.dn false p.1) (frzL p.2)], p.1.map kD) ρ'
  | none => .stuck
section
variable {m : M}
end
section
variable {X : Cx} {W : WX} {tg e : Expr} {p : Bool} {f : EF}
end
section
variable {f : EF} {ρ : Env}
theorem wp_zDnI {Q : List D × List D → Env → Prop} : wp (zDnI f) ρ Q ↔ wp f ρ fun d ρ' => opt (asDn d) fun p => Q ([.nd (.dn false p.1) (frzL p.2)], p.1.map kD) ρ' := wp_bnd.trans (wp_ext fun a ρ1 => by
  unfold opt wp
  dsimp only
  cases asDn a <;> exact Iff.rfl)
theorem opt_asDn {o : Bool} {ks : List NestedKey} {xs : List D} {Q : List NestedKey × List D → Prop} (k : Q (ks, xs)) : opt (asDn (.nd (.dn o ks) xs)) Q := k
end
/-! ### list(d) -/
theorem rep_dnF {m : M} {F H : Hp} {v : V} {o : Bool} {ks : List NestedKey} {xs : List D} {A : List Addr} (r : Rep m F H v (.nd (.dn o ks) xs) A) (s : Same F H) : ∃ a es, v = .ref a ∧ es.map (·.1) = ks ∧ DnI m.P m.w H a es ∧ (∀ e ∈ es, KRep m.K F (.ref e.2.1) e.1 ∧ e.1.depth ≤ 8) ∧ (a == sysModules) = false ∧ es.length ≤ sizeLine := by
  cases r with
  | fz h1 h2 h3 h4 =>
    obtain ⟨es, rfl, e2, ⟨o, e3⟩, e4, e5, e6, e7⟩ := h2
    rw [List.length_map] at e6
    exact ⟨_, es, rfl, rfl, ⟨o, s _ _ e3⟩, e4, e5, e6⟩
  | ow h1 h2 h3 =>
    obtain ⟨_, es, rfl, e2, e3, e4, e5, e6, e7⟩ := h2
    rw [List.length_map] at e6
    exact ⟨_, es, rfl, rfl, e3, e4, e5, e6⟩
section
variable {X : Cx} {W : WX} {p : Bool} {a : Expr} {o : Opd} {q1 pos : Pos}
end
end Z

set_option Elab.async false
set_option linter.all false
set_option maxRecDepth 100000
set_option maxHeartbeats 4000000
/-! Z54: sorted and min of data of any one shape: of a list, of a dict's keys. -/
namespace Z
open PySem PySem.Spec PyProof.Rows L2 PySem.W

section
variable {X : Cx} {pins : List (Addr × Obj)} {σ : Sl} {H : Hp} {s : Shared}
end
/-! ### on data -/
section
variable {X : Cx} {W : WX} {p : Bool} {a : Expr} {o : Opd} {q1 pos : Pos}
end
end Z

set_option Elab.async false
set_option linter.all false
set_option maxRecDepth 100000
set_option maxHeartbeats 4000000
/-! Z55: min and sorted of what rises in one way: cells, stands. -/
namespace Z
open PySem PySem.Spec PyProof.Rows L2 PySem.W

/-- an order that data of one shape keep -/
structure Ord1 {α : Type} (f : α → D) (lt : α → α → Bool) : Prop where
  irr : ∀ a, lt a a = false
  tr : ∀ a b c, lt a b = true → lt b c = true → lt a c = true
  tot : ∀ a b, lt a b = false → lt b a = false → a = b
  lt : ∀ a b, dataLt (f a).py (f b).py = lt a b
  al : ∀ a b, alike (f a).py (f b).py = true
  nn : ∀ a, (f a).py ≠ .none
  pl : ∀ a, (f a).plain = true
  pu : ∀ a, (f a).pure = true
  dp : ∀ a, (f a).py.depth ≤ 50
section
variable {α : Type} {f : α → D} {lt : α → α → Bool}
theorem Ord1.plain (O : Ord1 f lt) (xs : List α) : plainL (xs.map f) = true := by
  rw [plainL_all, List.all_eq_true]
  intro x hx
  obtain ⟨a, _, rfl⟩ := List.mem_map.mp hx
  exact O.pl a
theorem Ord1.pure (O : Ord1 f lt) (xs : List α) : pureL (xs.map f) = true := by
  rw [pureL_all, List.all_eq_true]
  intro x hx
  obtain ⟨a, _, rfl⟩ := List.mem_map.mp hx
  exact O.pu a
def Ord1.srt (O : Ord1 f lt) (xs : List α) : List α := xs.mergeSort fun a b => !lt b a
end
/-! ### cells -/
/-! ### stands -/
end Z

set_option Elab.async false
set_option linter.all false
set_option maxRecDepth 100000
set_option maxHeartbeats 4000000
/-! Z56: xs.insert(i, y), xs.remove(y), xs.clear(), d.pop(k) of a dict whose keys are tuples, sorted(d) of such. -/
namespace Z
open PySem PySem.Spec PyProof.Rows L2

/-! ### insert -/
/-! ### clear -/
/-! ### remove -/
section
variable {X : Cx} {W : WX} {o e e2 : Expr} {apos cpos : Pos} {i : Nat} {p : List Stp} {f g : EF} {p1 p2 : Bool}
end
/-! ### d.pop(k) -/
def uPopN : MutF := fun k ds es => match k, es with
  | .dn o ks, [.nd .tup ys] => (D.nd .tup ys).key.bind fun j => if j.depth ≤ 8 then (ixK ks j).bind fun n => (ds[n]?).map fun d => (.dn o (ks.eraseIdx n), ds.eraseIdx n, d) else none
  | _, _ => none
/-! a method of a dict whose keys are tuples -/
def tBMN (P : Program) (w : World) (r : V → List V → Hp → VK → Prop) (to : TE) (t : TA) : TE := fun σ H Q => to σ H fun x H1 => (∃ a es, x = .ref a ∧ DnI P w H1 a es) ∧ t σ H1 fun xs H2 => r x xs H2 Q
section
variable {X : Cx} {o e : Expr} {es : List Expr} {to : TE} {t : TA} {name : Str} {apos cpos : Pos} {id : String} {r : V → List V → Hp → VK → Prop}
theorem dn_is {pins : List (Addr × Obj)} {σ : Sl} {H : Hp} {s : Shared} {x : V} {v : Value} (I : Inv X pins σ H s) (r : RelV x v) (ty : ∃ a es, x = .ref a ∧ DnI X.prog X.w H a es) :
    s.TypeIs v "dict" ∧ ∀ a, v = .ref a → ∃ ob, s.heap.get? a = some ob ∧ ob.dict = none := by
  obtain ⟨a, es, rfl, o, h⟩ := ty
  cases r
  obtain ⟨h1, h2, _⟩ := dn_raw I h
  exact ⟨⟨o, h1, h2.1⟩, fun b e => by cases e; exact ⟨o, h1, h2.2.1⟩⟩
theorem pe_bmN (pa : PlainAttrs "dict") (slot : Slot "dict" name id) (hty : typeOf (.builtin id) = pure (.type "method_descriptor")) (hm : MtR X id r) (ho : PE X o to) (ha : PA X (e :: es) t)
    (hbase : attributeBase o name X.env (eval o X.env) = eval o X.env := by rfl)
    (hfew : ((backTo cpos (starEach (e :: es) X.env)).all (fun x => !x.1) && (backToKw cpos (keywordEach [] X.env)).all (fun x => x.1.isSome)
      && decide ((e :: es).length + ([] : List Keyword).length + (if ([] : List Keyword).isEmpty then 0 else 1) < 30)) = true := by rfl)
    (hline : (apos.endLine == cpos.line) = true := by rfl) (hs : starEach (e :: es) X.env = (false, eval e X.env) :: starEach es X.env := by rfl) (hplain : (backTo cpos (starEach es X.env)).any (·.1) = false := by rfl) :
    PE X (.Call (.Attribute o name apos) (e :: es) [] cpos) (tBMN X.prog X.w r to t) := by
  refine ⟨fun pins s σ H Q I h => ?_⟩
  refine wpAny_Call_method_late hbase hfew hline rfl (thn (ho.run pins s σ H _ I h) fun v s1 ⟨x, H1, I1, r1, ty, q1⟩ => ?_)
  obtain ⟨h1, h2⟩ := dn_is I1 r1 ty
  refine ⟨"dict", id, pa, slot, hty, h1, h2, ?_⟩
  have hA := ha.run cpos pins s1 σ H1 _ I1 q1
  rw [hs] at hA ⊢
  refine Calls.callWith_builtin (by show (false || (backTo cpos (starEach es X.env)).any (·.1)) = false; rw [hplain] <;> rfl) (Calls.evalArgs_plain ?_)
  exact thn hA fun us s2 ⟨vs, H2, I2, r2, q2⟩ => hm pins s2 σ H2 x vs v us Q I2 r1 r2 q2
end
def isDn : Kd → Bool
  | .dn o _ => o
  | _ => false
def plTyN (ρ : Env) (i : Nat) (p : List Stp) : Bool := match (getE ρ i p).bind asNd with
  | some q => isDn q.1
  | none => false
def zMutN (i : Nat) (p : List Stp) (u : MutF) (fs : List EF) : EF := fun ρ => if plTyN ρ i p = true then (evL fs ρ).bind fun es ρ1 => match mutE ρ1 i p u es with
  | some (ρ2, res) => .ok res ρ2
  | none => .stuck
  else .stuck
section
variable {X : Cx} {W : WX} {pos : Pos} {p1 p2 p3 : Bool} {o e : Expr} {es : List Expr} {ps : List (Bool × Opd)} {fs : List EF} {name : Str} {apos cpos : Pos} {id : String} {r : V → List V → Hp → VK → Prop} {i : Nat} {p : List Stp} {u : MutF}
end
section
variable {i : Nat} {p : List Stp} {u : MutF} {fs : List EF} {ρ : Env}
theorem wp_zMutN {Q : D → Env → Prop} : wp (zMutN i p u fs) ρ Q ↔ plTyN ρ i p = true ∧ wp (evL fs) ρ fun es ρ1 => opt (mutE ρ1 i p u es) fun q => Q q.2 q.1 := by
  unfold zMutN
  refine (wp_ifE (p := fun ρ => plTyN ρ i p = true)).trans (and_congr Iff.rfl (wp_bnd.trans (wp_ext fun es ρ1 => ?_)))
  unfold wp opt
  dsimp only
  cases mutE ρ1 i p u es <;> exact Iff.rfl
end
section
variable {X : Cx} {W : WX} {o e : Expr} {apos cpos : Pos} {i : Nat} {p : List Stp} {f : EF} {p1 : Bool}
end
end Z

set_option Elab.async false
set_option linter.all false
set_option maxRecDepth 100000
set_option maxHeartbeats 4000000
/-! Z57: sorted(d) of a dict whose keys are tuples. -/
namespace Z
open PySem PySem.Spec PyProof.Rows L2 PySem.W
section
variable {X : Cx} {pins : List (Addr × Obj)} {σ : Sl} {H : Hp} {s : Shared}
end
section
variable {X : Cx} {W : WX} {p : Bool} {a : Expr} {o : Opd} {q1 pos : Pos}
end
section
variable {α : Type} {f : α → D} {lt : α → α → Bool}
end
end Z

set_option Elab.async false
set_option linter.all false
set_option maxRecDepth 100000
set_option maxHeartbeats 4000000
/-! Z58: dicts whose keys are data of one shape (stands, cells), known in full; sets of such. -/
namespace Z
open PySem PySem.Spec PyProof.Rows L2
structure KeyD {α : Type} (f : α → D) (key : α → NestedKey) : Prop where
  inj : ∀ a b, key a = key b ↔ a = b
  tp : ∀ a, ∃ xs, f a = .nd .tup xs
  kk : ∀ a, (f a).key = some (key a)
  kd : ∀ a, kD (key a) = f a
  dp : ∀ a, (key a).depth ≤ 8
section
variable {α : Type} [DecidableEq α]
abbrev gdD (key : α → NestedKey) (o : Bool) (m : List (α × D)) : D := .nd (.dn o (m.map fun e => key e.1)) (m.map fun e => e.2)
def gdGet : List (α × D) → α → Option D
  | [], _ => none
  | e :: m, c => if e.1 = c then some e.2 else gdGet m c
def gdPut : List (α × D) → α → D → List (α × D)
  | [], c, v => [(c, v)]
  | e :: m, c, v => if e.1 = c then (c, v) :: m else e :: gdPut m c v
variable {f : α → D} {key : α → NestedKey}
theorem KeyD.at_gd (K : KeyD f key) : ∀ {m : List (α × D)} {c : α}, atNK (m.map fun e => key e.1) (m.map fun e => e.2) (key c) = gdGet m c
  | [], c => rfl
  | e :: m, c => by
    rw [List.map_cons, List.map_cons, atNK, gdGet, K.at_gd (m := m)]
    by_cases h : e.1 = c
    · rw [if_pos ((K.inj _ _).mpr h), if_pos h]
    · rw [if_neg (fun z => h ((K.inj _ _).mp z)), if_neg h]
theorem KeyD.put_gd (K : KeyD f key) : ∀ {m : List (α × D)} {c : α} {v : D}, putD (m.map fun e => key e.1) (m.map fun e => e.2) (key c) v = ((gdPut m c v).map fun e => key e.1, (gdPut m c v).map fun e => e.2)
  | [], c, v => rfl
  | e :: m, c, v => by
    have ih := K.put_gd (m := m) (c := c) (v := v)
    unfold putD at ih ⊢
    rw [List.map_cons, List.map_cons, ixK, gdPut]
    by_cases h : e.1 = c
    · rw [if_pos ((K.inj _ _).mpr h), if_pos h]
      subst h
      rfl
    · rw [if_neg (fun z => h ((K.inj _ _).mp z)), if_neg h]
      cases e2 : ixK (m.map fun e => key e.1) (key c) with
      | none =>
        rw [e2] at ih
        have h1 := congrArg Prod.fst ih
        have h2 := congrArg Prod.snd ih
        dsimp only at h1 h2
        show (key e.1 :: (m.map fun e => key e.1) ++ [key c], e.2 :: (m.map fun e => e.2) ++ [v]) = _
        rw [List.cons_append, List.cons_append, h1, h2]
        rfl
      | some n =>
        rw [e2] at ih
        have h1 := congrArg Prod.fst ih
        have h2 := congrArg Prod.snd ih
        dsimp only at h1 h2
        show (key e.1 :: (m.map fun e => key e.1), e.2 :: (m.map fun e => e.2).set n v) = _
        rw [h1, h2]
        rfl
theorem KeyD.mut_gd (K : KeyD f key) {m : List (α × D)} {c : α} {e : D} (h : m.length ≤ 100000) : mutP (gdD key true m) [] uSet [f c, e] = some (gdD key true (gdPut m c e), .at .non) := by
  obtain ⟨xs, e1⟩ := K.tp c
  have hk := K.kk c
  rw [e1] at hk ⊢
  show (if true = true then ((D.nd .tup xs).key.bind fun j => if j.depth ≤ 8 ∧ (m.map fun e => key e.1).length < sizeLine then some (Kd.dn true (putD (m.map fun e => key e.1) (m.map fun e => e.2) j e).1, (putD (m.map fun e => key e.1) (m.map fun e => e.2) j e).2, D.at .non) else none).bind fun r => if r.1.own = true then (setP (gdD key true m) [] (.nd r.1 r.2.1)).map fun d' => (d', r.2.2) else none else none) = _
  rw [hk, Option.bind_some, if_pos rfl, if_pos ⟨K.dp c, size_m (by rw [List.length_map]; omega)⟩, K.put_gd]
  rfl
/-! sets: all values True -/
end
/-! ### stands -/
end Z

set_option Elab.async false
set_option linter.all false
set_option maxRecDepth 100000
set_option maxHeartbeats 4000000
/-! Z59: a result that nobody changes any more (lists within lists); stands sorted. -/
namespace Z
open PySem PySem.Spec PyProof.Rows L2 PySem.W
def zFrz (f : EF) : EF := fun ρ => (f ρ).bind fun d ρ' => .ok d.frz ρ'
section
variable {X : Cx} {W : WX} {e : Expr} {p : Bool} {f : EF}
end
theorem wp_zFrz {f : EF} {ρ : Env} {Q : D → Env → Prop} : wp (zFrz f) ρ Q ↔ wp f ρ fun d ρ' => Q d.frz ρ' := wp_bnd
end Z

set_option Elab.async false
set_option linter.all false
set_option maxRecDepth 100000
set_option maxHeartbeats 4000000
/-! Z60: places within places: by keys, fields, numbers known or from a slot; through tuples, too. -/
namespace Z
open PySem PySem.Spec PyProof.Rows L2

inductive Pst where
  | key (x : Str)
  | fld (x : Str)
  | ix (i : Int)
/-- a step as it is written: known, or the number in a slot -/
inductive PsE where
  | c (s : Pst)
  | v (j : Nat)
def intS : Option (Option D) → Option Int
  | some (some (.at (.int n))) => some n
  | _ => none
def resP (ρ : Env) : List PsE → Option (List Pst)
  | [] => some []
  | .c s :: π => (resP ρ π).map (s :: ·)
  | .v j :: π => (intS ρ[j]?).bind fun n => (resP ρ π).map (.ix n :: ·)
inductive ResV (σ : Sl) : List PsE → List Pst → Prop
  | nil : ResV σ [] []
  | c {s : Pst} {π : List PsE} {p : List Pst} : ResV σ π p → ResV σ (.c s :: π) (s :: p)
  | v {j : Nat} {n : Int} {π : List PsE} {p : List Pst} : σ[j]? = some (some (.int n)) → ResV σ π p → ResV σ (.v j :: π) (.ix n :: p)
theorem ResV.det {σ : Sl} : ∀ {π : List PsE} {p p' : List Pst}, ResV σ π p → ResV σ π p' → p = p'
  | _, _, _, .nil, .nil => rfl
  | _, _, _, .c h, .c h' => by rw [h.det h']
  | _, _, _, .v e h, .v e' h' => by
    rw [e] at e'
    cases e'
    rw [h.det h']
def childQ : Kd → Nat → Pst → Option Nat
  | .dk _ ks, _, .key x => ixK ks (.inr x)
  | .ins _ _ ns, _, .fld x => ixK ns x
  | .lst _, n, .ix i => ixN n i
  | .tup, n, .ix i => ixN n i
  | _, _, _ => none
def Kd.isT : Kd → Bool
  | .tup => true
  | _ => false
def getQ : D → List Pst → Option D
  | d, [] => some d
  | .nd k xs, s :: p => (childQ k xs.length s).bind fun i => (xs[i]?).bind fun c => if (k.own || (k.isT && !c.pure)) = true then getQ c p else none
  | .at _, _ :: _ => none
def setQ : D → List Pst → D → Option D
  | _, [], e => some e
  | .nd k xs, s :: p, e => (childQ k xs.length s).bind fun i => (xs[i]?).bind fun c => (setQ c p e).map fun c' => .nd k (xs.set i c')
  | .at _, _ :: _, _ => none
def StepQ (H : Hp) (x : V) : Pst → V → Prop
  | .key t, z => ∃ a kvs, x = .ref a ∧ H a = some (.dK kvs) ∧ valV kvs (.inr t) = some z
  | .fld t, z => ∃ a C dx fs, x = .ref a ∧ H a = some (.ins C dx fs) ∧ fs.lookup t = some z
  | .ix i, z => ∃ a vs, x = .ref a ∧ (H a = some (.lst vs) ∨ Rd H a (.tup vs)) ∧ atI vs i = some z
def WalkQ (H : Hp) : V → List Pst → V → Prop
  | x, [], y => y = x
  | x, s :: p, y => ∃ z, StepQ H x s z ∧ WalkQ H z p y
theorem StepQ.det {H : Hp} {x y z : V} : ∀ {s : Pst}, StepQ H x s y → StepQ H x s z → y = z
  | .key t, ⟨a, kvs, e1, e2, e3⟩, ⟨b, kvs', f1, f2, f3⟩ => by
    subst e1; cases f1
    rw [e2] at f2; cases f2
    rw [e3] at f3; cases f3; rfl
  | .fld t, ⟨a, C, dx, fs, e1, e2, e3⟩, ⟨b, C', dx', fs', f1, f2, f3⟩ => by
    subst e1; cases f1
    rw [e2] at f2; cases f2
    rw [e3] at f3; cases f3; rfl
  | .ix i, ⟨a, vs, e1, e2, e3⟩, ⟨b, ws, f1, f2, f3⟩ => by
    subst e1; cases f1
    have e : vs = ws := by
      rcases e2 with e2 | e2 | ⟨o, e2⟩ <;> rcases f2 with f2 | f2 | ⟨o', f2⟩ <;> (rw [e2] at f2; cases f2; try rfl)
    subst e
    rw [e3] at f3; cases f3; rfl
theorem WalkQ.det {H : Hp} : ∀ {p : List Pst} {x y z : V}, WalkQ H x p y → WalkQ H x p z → y = z
  | [], _, _, _, e, f => e.trans f.symm
  | s :: p, x, y, z, ⟨u, h1, h2⟩, ⟨v, k1, k2⟩ => by
    cases h1.det k1
    exact h2.det k2
theorem StepQ.mono {H H' : Hp} (e : Same H H') {x y : V} : ∀ {s : Pst}, StepQ H x s y → StepQ H' x s y
  | .key t, ⟨a, kvs, e1, e2, e3⟩ => ⟨a, kvs, e1, e _ _ e2, e3⟩
  | .fld t, ⟨a, C, dx, fs, e1, e2, e3⟩ => ⟨a, C, dx, fs, e1, e _ _ e2, e3⟩
  | .ix i, ⟨a, vs, e1, e2, e3⟩ => ⟨a, vs, e1, e2.imp (e _ _) fun q => q.imp (e _ _) fun ⟨o, q⟩ => ⟨o, e _ _ q⟩, e3⟩
theorem WalkQ.mono {H H' : Hp} (e : Same H H') : ∀ {p : List Pst} {x y : V}, WalkQ H x p y → WalkQ H' x p y
  | [], _, _, h => h
  | s :: p, _, _, ⟨u, h1, h2⟩ => ⟨u, h1.mono e, h2.mono e⟩
theorem WalkQ.snoc {H : Hp} : ∀ {p : List Pst} {x y z : V} {s : Pst}, WalkQ H x (p ++ [s]) z → ∃ y, WalkQ H x p y ∧ StepQ H y s z
  | [], x, y, z, s, ⟨u, h1, h2⟩ => by
    cases h2
    exact ⟨x, rfl, h1⟩
  | t :: p, x, y, z, s, ⟨u, h1, h2⟩ => by
    obtain ⟨y', k1, k2⟩ := WalkQ.snoc (y := y) h2
    exact ⟨y', ⟨u, h1, k1⟩, k2⟩
theorem ResV.snoc {σ : Sl} : ∀ {π : List PsE} {p : List Pst} {e : PsE}, ResV σ (π ++ [e]) p → ∃ p1 s, p = p1 ++ [s] ∧ ResV σ π p1 ∧ ((e = .c s) ∨ ∃ j n, e = .v j ∧ s = .ix n ∧ σ[j]? = some (some (.int n)))
  | [], _, _, .c .nil => ⟨[], _, rfl, .nil, .inl rfl⟩
  | [], _, _, .v h .nil => ⟨[], _, rfl, .nil, .inr ⟨_, _, rfl, rfl, h⟩⟩
  | _ :: π, _, _, .c h => by
    obtain ⟨p1, s, rfl, h1, h2⟩ := h.snoc
    exact ⟨_ :: p1, s, rfl, .c h1, h2⟩
  | _ :: π, _, _, .v g h => by
    obtain ⟨p1, s, rfl, h1, h2⟩ := h.snoc
    exact ⟨_ :: p1, s, rfl, .v g h1, h2⟩
section
variable {m : M} {F F' H H' : Hp}
end

/-! ### a change on data -/
def getEQ (ρ : Env) (i : Nat) (p : List Pst) : Option D := match ρ[i]? with
  | some (some d) => getQ d p
  | _ => none
def mutQ (ρ : Env) (i : Nat) (p : List Pst) (u : MutF) (es : List D) : Option (Env × D) := match ρ[i]? with
  | some (some d) => ((getQ d p).bind asNd).bind fun q => if q.1.own = true then (u q.1 q.2 es).bind fun r => if r.1.own = true then (setQ d p (.nd r.1 r.2.1)).map fun d' => (ρ.set i (some d'), r.2.2) else none else none
  | _ => none
section
variable {m : M} {c : Cz} {ρ ρ' : Env} {T : List D} {σ : Sl} {tv : List V} {H F F' H' : Hp} {A B : List Addr}
end

/-! ### the receiver -/
def plTyQ (T : String) (ρ : Env) (i : Nat) (p : List Pst) : Bool := match (getEQ ρ i p).bind asNd with
  | some q => q.1.own && decide (kdTy q.1 = some T)
  | none => false
def zMutQ (T : String) (i : Nat) (π : List PsE) (u : MutF) (fs : List EF) : EF := fun ρ => match resP ρ π with
  | some p => if plTyQ T ρ i p = true then (evL fs ρ).bind fun es ρ1 => match mutQ ρ1 i p u es with
    | some (ρ2, res) => .ok res ρ2
    | none => .stuck
    else .stuck
  | none => .stuck
section
variable {X : Cx} {W : WX} {pos : Pos} {p1 p2 p3 : Bool} {o e : Expr} {es : List Expr} {ps : List (Bool × Opd)} {fs : List EF} {name : Str} {apos cpos : Pos} {T id : String} {r : V → List V → Hp → VK → Prop} {i : Nat} {π : List PsE} {u : MutF}
end
end Z

set_option Elab.async false
set_option linter.all false
set_option maxRecDepth 100000
set_option maxHeartbeats 4000000
/-! Z61: lists within places change; the plain side of it (printed by mkZ61.py). -/
namespace Z
open PySem PySem.Spec PyProof.Rows L2
section
variable {X : Cx} {W : WX} {pos : Pos} {p1 p2 p3 : Bool} {o e e2 : Expr} {f g : EF} {apos cpos : Pos} {i : Nat} {π : List PsE}
end
/-! ### the plain side -/
section
variable {ρ ρ1 : Env} {fs : List EF} {T : String} {i : Nat} {π : List PsE} {p : List Pst} {u : MutF} {d d' res : D}
theorem wp_zMutQ {Q : D → Env → Prop} (hr : resP ρ π = some p) (h : plTyQ T ρ i p = true ∧ wp (evL fs) ρ fun es ρ1 => opt (mutQ ρ1 i p u es) fun q => Q q.2 q.1) : wp (zMutQ T i π u fs) ρ Q := by
  unfold wp zMutQ
  rw [hr]
  dsimp only
  rw [if_pos h.1]
  have h2 := h.2
  unfold wp at h2
  cases e : evL fs ρ with
  | stuck => rw [e] at h2; exact h2
  | ex x ρ2 => rw [e] at h2; exact h2
  | ok es ρ2 =>
    rw [e] at h2
    have h2 : opt (mutQ ρ2 i p u es) fun q => Q q.2 q.1 := h2
    unfold opt at h2
    unfold R.bind
    dsimp only
    cases e2 : mutQ ρ2 i p u es with
    | none => rw [e2] at h2; exact h2
    | some q => rw [e2] at h2; exact h2
def mutPQ (d : D) (p : List Pst) (u : MutF) (es : List D) : Option (D × D) := ((getQ d p).bind asNd).bind fun q => if q.1.own = true then (u q.1 q.2 es).bind fun r => if r.1.own = true then (setQ d p (.nd r.1 r.2.1)).map fun d' => (d', r.2.2) else none else none
theorem mutQ_of {es : List D} {Q : Env × D → Prop} (h : ρ[i]? = some (some d)) (e : mutPQ d p u es = some (d', res)) (s : ρ.set i (some d') = ρ1) (k : Q (ρ1, res)) : opt (mutQ ρ i p u es) Q := by
  refine opt_of (b := (ρ1, res)) ?_ k
  unfold mutQ
  rw [h]
  unfold mutPQ at e
  show (((getQ d p).bind asNd).bind fun q => if q.1.own = true then (u q.1 q.2 es).bind fun r => if r.1.own = true then (setQ d p (.nd r.1 r.2.1)).map fun d' => (ρ.set i (some d'), r.2.2) else none else none) = _
  obtain ⟨q, h1, h2⟩ := Option.bind_eq_some_iff.mp e
  rw [h1, Option.bind_some]
  split at h2
  · rename_i ho
    rw [if_pos ho]
    obtain ⟨r, h3, h4⟩ := Option.bind_eq_some_iff.mp h2
    rw [h3, Option.bind_some]
    split at h4
    · rename_i hr
      rw [if_pos hr]
      obtain ⟨c, h5, h6⟩ := Option.map_eq_some_iff.mp h4
      rw [h5]
      cases h6
      subst s
      rfl
    · cases h4
  · cases h2
end
end Z

set_option Elab.async false
set_option linter.all false
set_option maxRecDepth 100000
set_option maxHeartbeats 4000000
/-! Z62: an except suite with a name that raises: the name goes, the new exception goes on. -/
namespace Z
open PySem PySem.Spec PyProof.Rows L2

section
variable {X : Cx} {n : Str} {i : Nat} {pos' : Pos} {Wout : WX} {N : Value → Shared → Prop} {pins : List (Addr × Obj)} {σ : L2.St} {H : Hp} {s : Shared}
end
section
variable {X : Cx} {x n : Str} {c : Value} {i : Nat} {body suite : List Stmt} {b₀ : Stmt} {np pos pos' : Pos} {tb : WX → TS} {ts : Addr → Value → Option Addr → TS} {Wout : WX}
end
end Z

set_option Elab.async false
set_option linter.all false
set_option maxRecDepth 100000
set_option maxHeartbeats 4000000
/-! Z63: what has no context: raise, calls; except x as n: raise C(e, n.f). -/
namespace Z
open PySem PySem.Spec PyProof.Rows L2

/-! ### defs whose exceptions have no context -/
section
variable {m : M} {base : Heap} {k : Nat} {x : Str} {ps : List Str} {φ : Fn}
end
section
variable {X : Cx} {W : WX} {k : Nat} {x : Str} {ps : List Str} {φ : Fn} {p pos : Pos} {e : Expr} {es : List Expr} {os : List (Bool × Opd)}
end
section
variable {X : Cx} {e : Expr} {es : List Expr} {ta : TA} {p pos : Pos}
end
section
variable {X : Cx} {W : WX} {kp : List Nat} {x m : Str} {C fI : Addr} {k : Nat} {fd : FuncData} {ps fs : List Str} {e : Expr} {es : List Expr} {ops : List (Bool × Opd)} {gs : List EF} {p pos pos' p2 : Pos}
end

/-! ### an own __init__ where an exception is handled -/
section
variable {P : Program} {w : World} {K : PySem.W.Frag} {mg : Str → Option Value} {base : Heap} {qual m f1 f2 : Str} {st : Stmt} {f C : Addr} {fd : FuncData} {k : Nat} {se : Str}
end
/-! ### except x as n: raise C(e, n.f) -/
section
variable {m : M} {c : Cz} {ρ : Env} {T : List D} {σ : Sl} {tv : List V} {H : Hp} {i : Nat} {o : Option V}
end
section
variable {X : Cx} {W : WX} {kp : List Nat} {x n y f1 f2 nm : Str} {cv : Value} {i j k : Nat} {body : List Stmt} {np pos pos' p0 p1 p3 p4 p5 : Pos} {f : SF} {tab : List (Str × Bool)} {C fI : Addr} {fd : FuncData} {ps : List Str} {e1 : Expr}
end
end Z

set_option Elab.async false
set_option linter.all false
set_option maxRecDepth 100000
set_option maxHeartbeats 4000000
/-! Z64: reversed(range(..)); except without a name; a def that raises, called where it doesn't. -/
namespace Z
open PySem PySem.Spec PyProof.Rows L2

/-! ### reversed(range(..)) -/
def zRevR1 (f : EF) : IF := fun ρ => (evI f ρ).bind fun j ρ' => if inR62 j = true then .ok ([], (rangeD 0 j).reverse) ρ' else .stuck
def zRevR2 (f g : EF) : IF := fun ρ => (evI f ρ).bind fun i ρ1 => (evI g ρ1).bind fun j ρ2 => if inR62 i = true ∧ inR62 j = true then .ok ([], (rangeD i j).reverse) ρ2 else .stuck
theorem revD_get {lo hi : Int} {i : Nat} {x : D} (h : (rangeD lo hi).reverse[i]? = some x) : i < (hi - lo).toNat ∧ x = .at (.int (lo + (((hi - lo).toNat - 1 - i : Nat) : Int))) := by
  unfold rangeD at h
  have hl : i < (hi - lo).toNat := by
    have := (List.getElem?_eq_some_iff.mp h).1
    simpa using this
  rw [List.getElem?_reverse (by simpa using hl), List.getElem?_map, List.length_map, List.length_range, List.getElem?_range (by omega)] at h
  cases h
  exact ⟨hl, rfl⟩
section
variable {X : Cx} {W : WX} {tg a b : Expr} {p1 p2 : Bool} {f g : EF} {p pos pos2 pos2' : Pos}
theorem yields_rev {m : M} {lo hi : Int} : Yields m [] (rangeD lo hi).reverse [] (Itc (lo + (((hi - lo).toNat : Nat) : Int) - 1) (-1) (hi - lo).toNat) := by
  intro c ρ T σ tv H i s
  refine ⟨fun x hx => ?_, fun hi' => ?_⟩
  · obtain ⟨h1, rfl⟩ := revD_get hx
    refine ⟨h1, fun xv H' hy => ?_⟩
    obtain ⟨rfl, rfl⟩ := hy
    have e : lo + (((hi - lo).toNat : Nat) : Int) - 1 + (i : Nat) * (-1) = lo + (((hi - lo).toNat - 1 - i : Nat) : Int) := by omega
    rw [e]
    exact s.pushA (.int _)
  · unfold rangeD at hi'
    rw [List.length_reverse, List.length_map, List.length_range] at hi'
    exact hi'
theorem zi_revR1 (hgr : Gl X "reversed") (hmr : X.mg "reversed" = none) (hg : Gl X "range") (hm : X.mg "range" = none) (ha : ZE X W p1 a f) (hs : starEach [.Call (.Name "range" p) [a] [] pos] X.env = (false, eval (.Call (.Name "range" p) [a] [] pos) X.env) :: starEach [] X.env := by rfl)
    (he : starEach [a] X.env = (false, eval a X.env) :: starEach [] X.env := by rfl) : ZI X W tg (.Call (.Name "reversed" pos2) [.Call (.Name "range" p) [a] [] pos] [] pos2') (zRevR1 f) :=
  piImp (pi_revR hgr hmr (prg_1 hg hm ha he) hs) fun σ H Q ⟨c, ρ, T, tv, s, q⟩ => by
    refine tZ_int s (((IPost.bind q).weak).mono fun j H1 ⟨ρ1, s1, q1⟩ => ?_)
    split at q1
    · rename_i hj
      obtain ⟨h1, h2⟩ := of_decide_eq_true hj
      refine ⟨j, rfl, by decide, by decide, h1, h2, ?_⟩
      exact q1 [] [] _ _ rfl s1 (yields_rev (m := mOf X) (lo := 0) (hi := j))
    · exact q1.elim
end
section
variable {f g : EF} {ρ : Env} {Q : List D × List D → Env → Prop}
theorem wp_zRevR1 : wp (zRevR1 f) ρ Q ↔ wp (evI f) ρ fun j ρ' => inR62 j = true ∧ Q ([], (rangeD 0 j).reverse) ρ' := wp_bnd.trans (wp_ext fun j ρ' => by
  unfold wp
  dsimp only
  by_cases h : inR62 j = true
  · rw [if_pos h]; exact ⟨fun q => ⟨h, q⟩, fun q => q.2⟩
  · rw [if_neg h]; exact ⟨fun q => q.elim, fun q => absurd q.1 h⟩)
theorem wp_zRevR2 : wp (zRevR2 f g) ρ Q ↔ wp (evI f) ρ fun i ρ1 => wp (evI g) ρ1 fun j ρ2 => (inR62 i = true ∧ inR62 j = true) ∧ Q ([], (rangeD i j).reverse) ρ2 := wp_bnd.trans (wp_ext fun i ρ1 => wp_bnd.trans (wp_ext fun j ρ2 => by
  unfold wp
  dsimp only
  by_cases h : inR62 i = true ∧ inR62 j = true
  · rw [if_pos h]; exact ⟨fun q => ⟨h, q⟩, fun q => q.2⟩
  · rw [if_neg h]; exact ⟨fun q => q.elim, fun q => absurd q.1 h⟩))
end

/-! ### except x: suite -/
section
variable {X : Cx} {W : WX} {kp : List Nat} {x : Str} {cv : Value} {body suite : List Stmt} {b₀ : Stmt} {np pos pos' : Pos} {f g : SF} {tab : List (Str × Bool)}
end
/-! ### a def that raises, where it doesn't -/
def noX (φ : Fn) : Fn := fun ds => match φ ds with
  | some (.ret d bk) => some (.ret d bk)
  | _ => none
theorem Cal.calm {P : Program} {w : World} {m : M} {base : Heap} {k : Nat} {x : Str} {ps : List Str} {φ : Fn} (hP : m.P = P) (F : Cal m base (L2.CX P w) k x ps φ) : Cal m base CX0 k x ps (noX φ) := by
  obtain ⟨f, fd, F, r⟩ := F
  have key : ∀ {vs : List V} {H : Hp} {Q : VK} {E : XK}, spZ m ps.length (noX φ) vs H Q E → spZ m ps.length φ vs H Q fun _ _ _ => False := fun {vs H Q E} ⟨F0, ds, A, h1, h2, h3, h4, h5, h6⟩ => by
    refine ⟨F0, ds, A, h1, h2, h3, h4, h5, ?_⟩
    unfold noX at h6
    cases e : φ ds with
    | none => rw [e] at h6; exact h6
    | some q =>
      rw [e] at h6
      cases q with
      | ret d bk => exact h6
      | exc y bk => exact False.elim h6
  refine ⟨f, fd, ⟨fun vs H Q E q => F.len vs H Q _ (key q), fun A outer s H args us vs Q E hr e0 b rv q => codeAny_mono (F.run A outer s H args us vs Q _ hr e0 b rv (key q)) fun r s' z => ?_⟩, r⟩
  cases r with
  | error e =>
    obtain ⟨_, _, _, _, _, _, _, _, _, _, _, _, hE⟩ := z
    exact hE.elim
  | ok fl => cases fl <;> exact z
end Z

set_option Elab.async false
set_option linter.all false
set_option maxRecDepth 100000
set_option maxHeartbeats 4000000
/-! Z65: a place as a lens; a field of an instance in a slot is read, changed, frozen. -/
namespace Z
open PySem PySem.Spec PyProof.Rows L2

/-! ### lenses -/
section
variable {m : M} {c : Cz} {ρ ρ' : Env} {T : List D} {σ : Sl} {tv : List V} {H F F' H' : Hp} {A B : List Addr}
end

/-! ### places: a slot, or a field of the instance in it -/
abbrev Plc := Option (Str × Str)
def pthO : Plc → List Pst
  | none => []
  | some q => [.fld q.2]
def fldD (cl f : Str) : D → Option D
  | .nd (.ins true cl' ns) xs => if cl' = cl then (ixK ns f).bind fun j => xs[j]? else none
  | _ => none
def plcD : Plc → D → Option D
  | none, d => some d
  | some q, d => fldD q.1 q.2 d
def plcE (ρ : Env) (i : Nat) (o : Plc) : Option D := match ρ[i]? with
  | some (some d) => plcD o d
  | _ => none
section
variable {X : Cx} {W : WX} {pos : Pos} {o e : Expr} {i : Nat} {q : Plc} {f : EF} {p1 : Bool}
/-! ### reading -/
def zP1 (g : D → Option D) (i : Nat) (q : Plc) : EF := fun ρ => match (plcE ρ i q).bind g with
  | some d => .ok d ρ
  | none => .stuck
def pureD (d : D) : Option D := if d.pure = true then some d else none
/-- .. and of an index -/
def zPIx (i : Nat) (q : Plc) (f : EF) : EF := fun ρ => if (plcE ρ i q).isSome = true then (f ρ).bind fun k ρ' => match (plcE ρ' i q).bind fun d => gIx [d, k] with
  | some d => .ok d ρ'
  | none => .stuck
  else .stuck
/-- e in a place -/
def zPIn (g : List D → Option D) (f : EF) (i : Nat) (q : Plc) : EF := fun ρ => (f ρ).bind fun k ρ' => match (plcE ρ' i q).bind fun d => g [k, d] with
  | some d => .ok d ρ'
  | none => .stuck
end
end Z

set_option Elab.async false
set_option linter.all false
set_option maxRecDepth 100000
set_option maxHeartbeats 4000000
/-! Z66: changes at a place: o.f[k] = x, d.pop(k), d.setdefault(k, []).append(x); o.f = e; o.m(..); C(..). -/
namespace Z
open PySem PySem.Spec PyProof.Rows L2

/-! ### a change at a place -/
def mutPlD (d : D) (q : Plc) (u : MutF) (es : List D) : Option (D × D) := ((plcD q d).bind asNd).bind fun n => if n.1.own = true then (u n.1 n.2 es).bind fun r => if r.1.own = true then (setQ d (pthO q) (.nd r.1 r.2.1)).map fun d' => (d', r.2.2) else none else none
def mutPl (ρ : Env) (i : Nat) (q : Plc) (u : MutF) (es : List D) : Option (Env × D) := match ρ[i]? with
  | some (some d) => (mutPlD d q u es).map fun r => (ρ.set i (some r.1), r.2)
  | _ => none
section
variable {m : M} {c : Cz} {ρ ρ' : Env} {T : List D} {σ : Sl} {tv : List V} {H F F' H' : Hp} {A B : List Addr} {i : Nat} {q : Plc}
end

/-! ### o.f[k] = x -/
def tgP (i : Nat) (q : Plc) (f : EF) (u : MutF) : TgF := fun d ρ => if (plcE ρ i q).isSome = true then (match f ρ with
  | .ok kd ρ1 => (mutPl ρ1 i q u [kd, d]).map (·.1)
  | _ => none) else none
section
variable {X : Cx} {W : WX} {pos : Pos} {o ix e : Expr} {i : Nat} {q : Plc} {f : EF} {apos cpos : Pos}
end

/-! ### d.pop(k) -/
def plcN (ρ : Env) (i : Nat) (q : Plc) : Bool := match (plcE ρ i q).bind asNd with
  | some n => isDn n.1
  | none => false
def zPPop (i : Nat) (q : Plc) (f : EF) : EF := fun ρ => if plcN ρ i q = true then (f ρ).bind fun k ρ1 => match mutPl ρ1 i q uPopN [k] with
  | some (ρ2, res) => .ok res ρ2
  | none => .stuck
  else .stuck
section
variable {X : Cx} {W : WX} {pos : Pos} {o ix e : Expr} {i : Nat} {q : Plc} {f : EF} {apos cpos : Pos}
end

/-! ### d.setdefault(k, []).append(x) -/
def sdPut (st : D → Option D) (ks : List NestedKey) (ds : List D) (j : NestedKey) (x : D) : Option Nat → Option D
  | some n => match ds[n]? with
    | some (.nd (.lst true) xs) => if xs.length < sizeLine then st (.nd (.dn true ks) (ds.set n (.nd (.lst true) (xs ++ [x])))) else none
    | _ => none
  | none => if ks.length < sizeLine then st (.nd (.dn true (ks ++ [j])) (ds ++ [.nd (.lst true) [x]])) else none
def sdIn (st : D → Option D) (k x : D) : D → Option D
  | .nd (.dn true ks) ds => match k with
    | .nd .tup ys => (D.nd .tup ys).key.bind fun j => if j.depth ≤ 8 then sdPut st ks ds j x (ixK ks j) else none
    | _ => none
  | _ => none
def sdD (q : Plc) (d k x : D) : Option D := (plcD q d).bind (sdIn (fun e => setQ d (pthO q) e) k x)
def sdPl (ρ : Env) (i : Nat) (q : Plc) (k : D) (l : Nat) : Option Env := match ρ[i]?, ρ[l]? with
  | some (some d), some (some x) => if x.pure = true then (sdD q d k x).map fun d' => ρ.set i (some d') else none
  | _, _ => none
def zPSd (i : Nat) (q : Plc) (f : EF) (l : Nat) : EF := fun ρ => if plcN ρ i q = true then (f ρ).bind fun k ρ1 => match sdPl ρ1 i q k l with
  | some ρ2 => .ok (.at .non) ρ2
  | none => .stuck
  else .stuck
theorem KRep.monoS {K : PySem.W.Frag} {F H : Hp} (e : Same F H) {v : V} {k : NestedKey} (h : KRep K F v k) : KRep K H v k := h.mono e
section
variable {m : M} {c : Cz} {ρ ρ' : Env} {T : List D} {σ : Sl} {tv : List V} {H F F' H' : Hp} {A B : List Addr} {i l : Nat} {q : Plc} {kd : D} {kv y0 x0 : V} {p : Addr} {Q : VK}
end
section
variable {X : Cx} {W : WX} {o ke xe : Expr} {i l : Nat} {q : Plc} {f : EF} {a1 c1 a2 c2 p3 : Pos}
end
end Z

set_option Elab.async false
set_option linter.all false
set_option maxRecDepth 100000
set_option maxHeartbeats 4000000
/-! Z67: instances: o.f = e for a new f; o.m(..); C(..). -/
namespace Z
open PySem PySem.Spec PyProof.Rows L2

/-! ### o.f = e -/
def uFld (f : Str) : MutF := fun k ds es => match k, es with
  | .ins o cl ns, [e] => if ixK ns f = none ∧ ns.length < 900 then some (.ins o cl (ns ++ [f]), ds ++ [e], .at .non) else none
  | _, _ => none
def insOf (cl : Str) (ρ : Env) (i : Nat) : Bool := match ρ[i]? with
  | some (some (.nd (.ins true cl' _) _)) => decide (cl' = cl)
  | _ => false
def insM (cl mt : Str) (ρ : Env) (i : Nat) : Bool := match ρ[i]? with
  | some (some (.nd (.ins true cl' ns) _)) => decide (cl' = cl ∧ ixK ns mt = none)
  | _ => false
def zSetF (i : Nat) (cl f : Str) (e : EF) : SF := fun ρ => (e ρ).bind fun d ρ1 => if insOf cl ρ1 i = true then match mutPl ρ1 i none (uFld f) [d] with
  | some (ρ2, _) => .ok .nx ρ2
  | none => .stuck
  else .stuck
section
variable {X : Cx} {W : WX} {kp : List Nat} {o e : Expr} {i : Nat} {cl f : Str} {ef : EF} {p : Bool} {pos pos' : Pos}
end

/-! ### o.m(..) -/
def zMeth (cl mt : Str) (φ : Fn) (i : Nat) (os : List Opd) : EF := fun ρ => if insM cl mt ρ i = true then zCall φ (.p i :: os) ρ else .stuck
section
variable {X : Cx} {W : WX} {k : Nat} {cl mt : Str} {ps : List Str} {φ : Fn} {p pos apos : Pos} {o e : Expr} {es : List Expr} {os : List (Bool × Opd)} {i : Nat}
end

/-! ### C(..) -/
section
variable {m : M} {c : Cz} {ρ : Env} {T : List D} {σ : Sl} {tv : List V} {H : Hp}
end
section
variable {X : Cx} {W : WX} {k : Nat} {cl : Str} {ps : List Str} {φ : Fn} {p pos : Pos} {e : Expr} {es : List Expr} {ops : List (Bool × Opd)} {fs : List EF}
end
end Z

set_option Elab.async false
set_option linter.all false
set_option maxRecDepth 100000
set_option maxHeartbeats 4000000
/-! Z68: the plain side of Z65..Z67; methods' facts. -/
namespace Z
open PySem PySem.Spec PyProof.Rows L2
section
variable {ρ ρ1 : Env} {i l : Nat} {q : Plc} {f : EF} {x x' d d' d2 c res : D} {u : MutF} {es : List D} {g : D → Option D}
theorem plcE_at (h : ρ[i]? = some (some x)) (e : plcD q x = some d) : plcE ρ i q = some d := by
  unfold plcE
  rw [h]
  exact e
theorem wp_zP1 {Q : D → Env → Prop} : wp (zP1 g i q) ρ Q ↔ opt ((plcE ρ i q).bind g) fun d => Q d ρ := by
  unfold wp zP1 opt
  cases (plcE ρ i q).bind g <;> exact Iff.rfl
theorem p1_of {Q : D → Prop} (h : ρ[i]? = some (some x)) (e : plcD q x = some d) (k : opt (g d) Q) : opt ((plcE ρ i q).bind g) Q := by
  rw [plcE_at h e, Option.bind_some]
  exact k
theorem o_pureD {Q : D → Prop} (h : d.pure = true) (k : Q d) : opt (pureD d) Q := by
  unfold pureD
  rw [if_pos h]
  exact k
theorem wp_zPIx {Q : D → Env → Prop} : wp (zPIx i q f) ρ Q ↔ (plcE ρ i q).isSome = true ∧ wp f ρ fun k ρ' => opt ((plcE ρ' i q).bind fun d => gIx [d, k]) fun d => Q d ρ' := by
  refine (wp_ifE (p := fun ρ => (plcE ρ i q).isSome = true) (f := fun ρ => (f ρ).bind fun k ρ' => match (plcE ρ' i q).bind fun d => gIx [d, k] with
    | some d => R.ok d ρ'
    | none => R.stuck)).trans (and_congr Iff.rfl (wp_bnd.trans (wp_ext fun k ρ' => ?_)))
  unfold opt wp
  dsimp only
  cases (plcE ρ' i q).bind fun d => gIx [d, k] <;> exact Iff.rfl
theorem wp_zPIx_of {Q : D → Env → Prop} (h : ρ[i]? = some (some x)) (e : plcD q x = some d) (k : wp f ρ fun k ρ' => opt ((plcE ρ' i q).bind fun d => gIx [d, k]) fun d => Q d ρ') : wp (zPIx i q f) ρ Q := wp_zPIx.mpr ⟨by rw [plcE_at h e]; rfl, k⟩
theorem wp_zPIn {g : List D → Option D} {Q : D → Env → Prop} : wp (zPIn g f i q) ρ Q ↔ wp f ρ fun k ρ' => opt ((plcE ρ' i q).bind fun d => g [k, d]) fun d => Q d ρ' := by
  refine wp_bnd.trans (wp_ext fun k ρ' => ?_)
  unfold opt wp
  dsimp only
  cases (plcE ρ' i q).bind fun d => g [k, d] <;> exact Iff.rfl
theorem mutPl_of {Q : Env × D → Prop} (h : ρ[i]? = some (some d)) (e : mutPlD d q u es = some (d', res)) (s : ρ.set i (some d') = ρ1) (k : Q (ρ1, res)) : opt (mutPl ρ i q u es) Q := by
  refine opt_of (b := (ρ1, res)) ?_ k
  unfold mutPl
  rw [h]
  dsimp only
  rw [e]
  subst s
  rfl
theorem tgP_of {Q : Env → Prop} (h : ρ[i]? = some (some x)) (e : plcD q x = some c) (k : wp f ρ fun kd ρ1 => opt (mutPl ρ1 i q u [kd, d]) fun r => Q r.1) : tgp (tgP i q f u) d ρ Q := by
  unfold tgp tgP
  rw [if_pos (by rw [plcE_at h e]; rfl)]
  unfold wp at k
  cases e1 : f ρ with
  | stuck => rw [e1] at k; exact k
  | ex x ρ2 => rw [e1] at k; exact k
  | ok kd ρ2 =>
    rw [e1] at k
    have k : opt (mutPl ρ2 i q u [kd, d]) fun r => Q r.1 := k
    unfold opt at k
    dsimp only
    cases e2 : mutPl ρ2 i q u [kd, d] with
    | none => rw [e2] at k; exact k
    | some r => rw [e2] at k; exact k
theorem wp_zPPop {Q : D → Env → Prop} : wp (zPPop i q f) ρ Q ↔ plcN ρ i q = true ∧ wp f ρ fun k ρ1 => opt (mutPl ρ1 i q uPopN [k]) fun r => Q r.2 r.1 := by
  refine (wp_ifE (p := fun ρ => plcN ρ i q = true) (f := fun ρ => (f ρ).bind fun k ρ1 => match mutPl ρ1 i q uPopN [k] with
    | some (ρ2, res) => R.ok res ρ2
    | none => R.stuck)).trans (and_congr Iff.rfl (wp_bnd.trans (wp_ext fun k ρ' => ?_)))
  unfold opt wp
  dsimp only
  cases mutPl ρ' i q uPopN [k] <;> exact Iff.rfl
theorem wp_zPSd {Q : D → Env → Prop} : wp (zPSd i q f l) ρ Q ↔ plcN ρ i q = true ∧ wp f ρ fun k ρ1 => opt (sdPl ρ1 i q k l) fun ρ2 => Q (.at .non) ρ2 := by
  refine (wp_ifE (p := fun ρ => plcN ρ i q = true) (f := fun ρ => (f ρ).bind fun k ρ1 => match sdPl ρ1 i q k l with
    | some ρ2 => R.ok (D.at At.non) ρ2
    | none => R.stuck)).trans (and_congr Iff.rfl (wp_bnd.trans (wp_ext fun k ρ' => ?_)))
  unfold opt wp
  dsimp only
  cases sdPl ρ' i q k l <;> exact Iff.rfl
theorem wp_zSetF {cl n : Str} {e : EF} {Q : Fl → Env → Prop} : wp (zSetF i cl n e) ρ Q ↔ wp e ρ fun d ρ1 => insOf cl ρ1 i = true ∧ opt (mutPl ρ1 i none (uFld n) [d]) fun r => Q .nx r.1 := by
  refine wp_bnd.trans (wp_ext fun k ρ' => ?_)
  refine (wp_ifE (p := fun ρ1 => insOf cl ρ1 i = true) (f := fun ρ1 => match mutPl ρ1 i none (uFld n) [k] with
    | some (ρ2, _) => R.ok Fl.nx ρ2
    | none => R.stuck)).trans (and_congr Iff.rfl ?_)
  unfold opt wp
  dsimp only
  cases mutPl ρ' i none (uFld n) [k] <;> exact Iff.rfl
theorem wp_zMeth {cl mt : Str} {φ : Fn} {os : List Opd} {Q : D → Env → Prop} : wp (zMeth cl mt φ i os) ρ Q ↔ insM cl mt ρ i = true ∧ wp (zCall φ (.p i :: os)) ρ Q := wp_ifE (p := fun ρ => insM cl mt ρ i = true)
end
section
variable {X : Cx} {W : WX} {o : Expr} {i : Nat} {q : Plc} {q1 pos : Pos}
end
end Z

set_option Elab.async false
set_option linter.all false
set_option maxRecDepth 100000
set_option maxHeartbeats 4000000
/-! Z69: {k: v}, where v is owned. -/
namespace Z
open PySem PySem.Spec PyProof.Rows L2
def dispO : D → D → Option D
  | .nd .tup ys, v => (D.nd .tup ys).key.bind fun j => if j.depth ≤ 8 ∧ (D.nd .tup ys).pure = true then some (.nd (.dn true [j]) [v]) else none
  | _, _ => none
/-- {k: v} -/
def zDispO (f g : EF) : EF := fun ρ => (f ρ).bind fun k ρ1 => (g ρ1).bind fun v ρ2 => match dispO k v with
  | some r => .ok r ρ2
  | none => .stuck
section
variable {X : Cx} {W : WX} {e1 e2 : Expr} {p1 p2 : Bool} {f g : EF} {pos : Pos}
end
section
variable {f g : EF} {ρ : Env}
theorem wp_zDispO {Q : D → Env → Prop} : wp (zDispO f g) ρ Q ↔ wp f ρ fun k ρ1 => wp g ρ1 fun v ρ2 => opt (dispO k v) fun r => Q r ρ2 := wp_bnd.trans (wp_ext fun a ρ1 => wp_bnd.trans (wp_ext fun b ρ2 => by
  unfold opt wp
  dsimp only
  cases dispO a b <;> exact Iff.rfl))
end
section
variable {α : Type} [DecidableEq α] {f : α → D} {key : α → NestedKey}
end
/-- o.f = d -/
def setFP (ρ : Env) (i : Nat) (cl n : Str) (d : D) (Q : Env → Prop) : Prop := insOf cl ρ i = true ∧ opt (mutPl ρ i none (uFld n) [d]) fun r => Q r.1
section
variable {ρ ρ1 : Env} {i : Nat} {cl n : Str} {e : EF} {d : D} {ns : List Str} {xs : List D}
theorem wp_zSetFP {Q : Fl → Env → Prop} : wp (zSetF i cl n e) ρ Q ↔ wp e ρ fun d ρ1 => setFP ρ1 i cl n d (Q .nx) := wp_zSetF
theorem setFP_of {Q : Env → Prop} (h : ρ[i]? = some (some (.nd (.ins true cl ns) xs))) (hn : ixK ns n = none) (hl : ns.length < 900) (s : ρ.set i (some (.nd (.ins true cl (ns ++ [n])) (xs ++ [d]))) = ρ1) (k : Q ρ1) : setFP ρ i cl n d Q := by
  refine ⟨?_, mutPl_of (res := .at .non) h ?_ s k⟩
  · unfold insOf
    rw [h]
    exact decide_eq_true rfl
  · unfold mutPlD
    rw [show plcD none (D.nd (.ins true cl ns) xs) = some (.nd (.ins true cl ns) xs) from rfl, Option.bind_some, show asNd (D.nd (.ins true cl ns) xs) = some (Kd.ins true cl ns, xs) from rfl, Option.bind_some]
    show (if (Kd.ins true cl ns).own = true then ((if ixK ns n = none ∧ ns.length < 900 then some (Kd.ins true cl (ns ++ [n]), xs ++ [d], D.at .non) else none).bind fun r => if r.1.own = true then (setQ (D.nd (.ins true cl ns) xs) [] (.nd r.1 r.2.1)).map fun d' => (d', r.2.2) else none) else none) = _
    rw [if_pos (show (Kd.ins true cl ns).own = true from rfl), if_pos ⟨hn, hl⟩]
    rfl
end
end Z

set_option Elab.async false
set_option linter.all false
set_option maxRecDepth 100000
set_option maxHeartbeats 4000000
/-! Z70: sorted(t) of a tuple of data. -/
namespace Z
open PySem PySem.Spec PyProof.Rows L2 PySem.W
section
variable {X : Cx} {pins : List (Addr × Obj)} {σ : Sl} {H : Hp} {s : Shared}
end
section
variable {X : Cx} {W : WX} {p : Bool} {a : Expr} {o : Opd} {q1 pos : Pos}
end
section
variable {α : Type} {f : α → D} {lt : α → α → Bool}
end
end Z

set_option Elab.async false
set_option linter.all false
set_option maxRecDepth 100000
set_option maxHeartbeats 4000000
/-! Z71: d.get(k), d.get(k, x); str of a whole number; a def that asks for str of data, called by another one. -/
namespace Z
open PySem PySem.Spec PyProof.Rows L2

/-! ### a method that reads -/
def metC (chk : D → Bool) (g : List D → Option D) (f : EF) (os : List Opd) (ρ : Env) : R D → R D
  | .ok d _ => if chk d = true then zOps g (.v f :: os) ρ else .stuck
  | .ex x ρ1 => .ex x ρ1
  | .stuck => .stuck
def zMet (chk : D → Bool) (g : List D → Option D) (f : EF) (os : List Opd) : EF := fun ρ => metC chk g f os ρ (f ρ)
section
variable {m : M} {W : WX} {c : Cz} {ρ : Env} {Tt : List D} {σ : Sl} {tv : List V} {H : Hp} {Q : VK} {chk : D → Bool} {g : List D → Option D} {f : EF} {ps : List (Bool × Opd)} {r : V → List V → Hp → VK → Prop} {ty : V → Hp → Prop}
theorem zmet_run (lr : LR m (fun vs H Q => ∃ x ys, vs = x :: ys ∧ r x ys H Q) g) (hty : ∀ {c : Cz} {ρ : Env} {T : List D} {tv : List V} {v : V} {d : D} {H : Hp}, ZS m c ρ (d :: T) σ (v :: tv) H → chk d = true → ty v H) {p1 : Bool}
    (q : ZPost m W false c Tt σ tv H Q (zMet chk g f (ps.map (·.2)) ρ)) : ZPost m W p1 c Tt σ tv H (fun v H1 => ty v H1 ∧ tOs m W ps σ H1 fun vs H2 => r v vs H2 Q) (f ρ) := by
  unfold zMet at q
  cases e1 : f ρ with
  | stuck => rw [e1] at q; exact q
  | ex x ρ1 => rw [e1] at q; exact q
  | ok d ρ1 =>
    rw [e1] at q
    have q : ZPost m W false c Tt σ tv H Q (if chk d = true then zOps g (.v f :: ps.map (·.2)) ρ else .stuck) := q
    split at q
    · rename_i hl
      intro v H1 s1 k1
      refine ⟨hty s1 hl, tOs_run s1 ?_⟩
      unfold zOps at q
      rw [evO, e1] at q
      have q : ZPost m W false c Tt σ tv H Q (((evO (ps.map (·.2)) ρ1).bind fun r ρ2 => R.ok (Sum.inl d :: r) ρ2).bind fun r ρ' => match (fillO r ρ').bind g with
        | some d => .ok d ρ'
        | none => .stuck) := q
      cases e2 : evO (ps.map (·.2)) ρ1 with
      | stuck => rw [e2] at q; exact q
      | ex x ρ2 =>
        rw [e2] at q
        exact fun cls dx H' z s' => q cls dx H' z s'.pop
      | ok r0 ρ2 =>
        rw [e2] at q
        have q : ZPost m W false c Tt σ tv H Q (match (fillO (Sum.inl d :: r0) ρ2).bind g with
          | some d => .ok d ρ2
          | none => .stuck) := q
        intro vs tvs H2 pk s2 k2
        have pk2 : Pick σ (v :: vs) (.inl d :: r0) (v :: tvs) := .val pk
        have s3 := s2.rot pk.length
        cases e3 : fillO (Sum.inl d :: r0) ρ2 with
        | none => rw [e3] at q; exact q.elim
        | some ds =>
          rw [e3, Option.bind_some] at q
          cases e4 : g ds with
          | none => rw [e4] at q; exact q.elim
          | some d' =>
            rw [e4] at q
            obtain ⟨F, A, B, s4⟩ := id s3
            obtain ⟨B1, B2, r1, r2, rfl⟩ := Reps.mid (ds := d :: valsO r0) (vs := v :: tvs) pk2.length s4.tm
            obtain ⟨A', r3⟩ := pick_reps s4.sl pk2 r1 e3
            obtain ⟨x, ys, e, z⟩ := lr F H2 (v :: vs) ds A' d' Q s4.sub r3 e4 (s4.yield fun v' H' s' k' => q v' H' (ZS.under (ds := d :: valsO r0) (vs := v :: tvs) s' pk2.length) fun z => nomatch z)
            cases e
            exact z
    · exact q.elim
theorem wp_zMet {os : List Opd} {Q : D → Env → Prop} (h : wp f ρ fun d ρ1 => chk d = true ∧ wp (evO os) ρ1 fun r ρ2 => opt ((fillO r ρ2).bind fun es => g (d :: es)) fun v => Q v ρ2) : wp (zMet chk g f os) ρ Q := by
  unfold wp at h ⊢
  cases e1 : f ρ with
  | stuck => rw [e1] at h; exact h.elim
  | ex x ρ1 => rw [e1] at h; exact h.elim
  | ok d ρ1 =>
    rw [e1] at h
    obtain ⟨hl, h⟩ := h
    have e : zMet chk g f os ρ = zOps g (.v f :: os) ρ := by
      unfold zMet
      rw [e1]
      exact if_pos hl
    rw [e]
    cases e2 : evO os ρ1 with
    | stuck => rw [e2] at h; exact h.elim
    | ex x ρ2 => rw [e2] at h; exact h.elim
    | ok r ρ2 =>
      rw [e2] at h
      have h : opt ((fillO r ρ2).bind fun es => g (d :: es)) fun v => Q v ρ2 := h
      have e7 : evO (.v f :: os) ρ = .ok (.inl d :: r) ρ2 := by
        rw [evO, e1]
        show (evO os ρ1).bind _ = _
        rw [e2]
        rfl
      have e5 : (fillO (Sum.inl d :: r) ρ2).bind g = (fillO r ρ2).bind fun es => g (d :: es) := by
        rw [fillO]
        cases fillO r ρ2 <;> rfl
      unfold opt at h
      cases e6 : (fillO r ρ2).bind fun es => g (d :: es) with
      | none => rw [e6] at h; exact h.elim
      | some v =>
        rw [e6] at h
        have e8 : zOps g (.v f :: os) ρ = .ok v ρ2 := by
          unfold zOps
          rw [e7]
          show (match (fillO (Sum.inl d :: r) ρ2).bind g with
            | some d => R.ok d ρ2
            | none => .stuck) = _
          rw [e5, e6]
        rw [e8]
        exact h
end
/-! ### d.get(k), d.get(k, x): keys that are tuples -/
def isDnD : D → Bool
  | .nd (.dn _ _) _ => true
  | _ => false
theorem top_dn {m : M} {c : Cz} {ρ : Env} {T : List D} {σ : Sl} {v : V} {tv : List V} {H : Hp} {d : D} (s : ZS m c ρ (d :: T) σ (v :: tv) H) (h : isDnD d = true) : ∃ a es, v = .ref a ∧ DnI m.P m.w H a es := by
  obtain ⟨F, A, B, z⟩ := s
  unfold isDnD at h
  split at h
  · cases id z.tm with
    | cons r _ =>
      obtain ⟨a, es, e1, _, e2, _⟩ := rep_dnF r z.sub
      exact ⟨a, es, e1, e2⟩
  · cases h
def rGetN (P : Program) (w : World) (K : PySem.W.Frag) : V → List V → Hp → VK → Prop := fun x vs H Q => ∃ (a : Addr) (es : List (NestedKey × Addr × V)) (y : V) (k : NestedKey), x = .ref a ∧ DnG P w K H a y es k ∧ ((vs = [y] ∧ Q ((entAt es k).getD .non) H) ∨ ∃ z, vs = [y, z] ∧ Q ((entAt es k).getD z) H)
theorem relD {o : Option V} {u : Option Value} {x : V} {y : Value} (r : RelO o u) (h : RelV x y) : RelV (o.getD x) (u.getD y) := by
  cases o <;> cases u
  · exact h
  · exact r.elim
  · exact r.elim
  · exact r
theorem mt_getN {X : Cx} (hu : X.A.units + 64 < cLine) : MtR X "dict.get" (rGetN X.prog X.w X.K) := by
  intro pins s σ H x xs v us0 Q I rx rxs h
  obtain ⟨a, es, y, k, rfl, g, h⟩ := h
  cases rx
  have g0 := g
  rcases h with ⟨rfl, q⟩ | ⟨z, rfl, q⟩
  · obtain ⟨uy, rfl, ry⟩ := rxs.one
    obtain ⟨b, xs, e1, e2, r1, d, hk, hr⟩ := g.to hu I ry
    cases e1
    cases e2
    exact call_meetsIn PySem.F.slot_dict_get d.typeIs PySem.F.entry_dict_get (PySem.F.args_dict_get_2 _ _) (meetsH_dict_get (nestedKind X.prog X.w) a b g0.2.2.1) ⟨hr, k, xs, hk, d, ⟨_, H, I.tok _, relD (ent_val r1 k) (show RelV .non Value.none from rfl), q⟩⟩
  · obtain ⟨uy, uz, rfl, ry, rz⟩ := rxs.two
    obtain ⟨b, xs, e1, e2, r1, d, hk, hr⟩ := g.to hu I ry
    cases e1
    cases e2
    exact call_meetsIn PySem.F.slot_dict_get d.typeIs PySem.F.entry_dict_get (PySem.F.args_dict_get_3 _ _ _) (meetsH_dict_get_default (nestedKind X.prog X.w) a b g0.2.2.1 uz) ⟨hr, k, xs, hk, d, ⟨_, H, I.tok _, relD (ent_val r1 k) rz, q⟩⟩
def gGetN : List D → Option D
  | [.nd (.dn _ ks) xs, .nd .tup ys] => pureO ((D.nd .tup ys).key.bind fun k => if k.depth ≤ 8 then some ((atNK ks xs k).getD (.at .non)) else none)
  | [.nd (.dn _ ks) xs, .nd .tup ys, z] => pureO ((D.nd .tup ys).key.bind fun k => if k.depth ≤ 8 then some ((atNK ks xs k).getD z) else none)
  | _ => none
theorem lr_getN {m : M} : LR m (fun vs H Q => ∃ x ys, vs = x :: ys ∧ rGetN m.P m.w m.K x ys H Q) gGetN := by
  intro F H vs ds A d Q sm rs hg y
  unfold gGetN at hg
  split at hg
  · rename_i o ks xs ys
    obtain ⟨x1, y1, rfl, ⟨_, r1⟩, _, r2⟩ := reps2 rs
    obtain ⟨h1, h2⟩ := pureO_of hg
    obtain ⟨k, hk, h3⟩ := Option.bind_eq_some_iff.mp h1
    split at h3
    · rename_i hd
      cases h3
      obtain ⟨a, ws, B, rfl, dn, r3⟩ := rep_dn r1 sm
      obtain ⟨es, e1, e2, g⟩ := dn.g (key_ref r2) (KRep.mono sm (r2.key hk)) hd
      subst e1 e2
      have z := entAt_ok (j := k) r3
      refine ⟨_, _, rfl, a, es, y1, k, rfl, g, .inl ⟨rfl, ?_⟩⟩
      cases e : atNK (es.map (·.1)) xs k with
      | none =>
        rw [e] at z y
        have e3 : entAt es k = none := by
          cases e4 : entAt es k with
          | none => rfl
          | some v => rw [e4] at z; exact z.elim
        rw [e3]
        exact y.atom (a := .non) sm
      | some d0 =>
        rw [e] at z y h2
        obtain ⟨v, C, ev, rv⟩ := z.some_of
        rw [ev]
        exact y.pureV sm rv h2
    · cases h3
  · rename_i o ks xs ys z0
    cases rs with
    | @cons x1 _ _ _ A1 _ r1 rs =>
      cases rs with
      | @cons y1 _ _ _ A2 _ r2 rs =>
        cases rs with
        | @cons z1 _ _ _ A3 _ rz rs =>
          cases rs
          obtain ⟨h1, h2⟩ := pureO_of hg
          obtain ⟨k, hk, h3⟩ := Option.bind_eq_some_iff.mp h1
          split at h3
          · rename_i hd
            cases h3
            obtain ⟨a, ws, B, rfl, dn, r3⟩ := rep_dn r1 sm
            obtain ⟨es, e1, e2, g⟩ := dn.g (key_ref r2) (KRep.mono sm (r2.key hk)) hd
            subst e1 e2
            have z := entAt_ok (j := k) r3
            refine ⟨_, _, rfl, a, es, y1, k, rfl, g, .inr ⟨z1, rfl, ?_⟩⟩
            cases e : atNK (es.map (·.1)) xs k with
            | none =>
              rw [e] at z y h2
              have e3 : entAt es k = none := by
                cases e4 : entAt es k with
                | none => rfl
                | some v => rw [e4] at z; exact z.elim
              rw [e3]
              exact y.pureV sm rz h2
            | some d0 =>
              rw [e] at z y h2
              obtain ⟨v, C, ev, rv⟩ := z.some_of
              rw [ev]
              exact y.pureV sm rv h2
          · cases h3
  · cases hg
section
variable {X : Cx} {W : WX} {p1 p2 p3 : Bool} {o e e2 : Expr} {f : EF} {o2 o3 : Opd} {apos cpos : Pos}
theorem ze_getN2 (hu : X.A.units + 64 < cLine) (he : ZE X W p1 o f) (ha : ZO X W p2 e o2) (hb : ZO X W p3 e2 o3)
    (hbase : attributeBase o "get" X.env (eval o X.env) = eval o X.env := by rfl)
    (hfew : ((backTo cpos (starEach [e, e2] X.env)).all (fun x => !x.1) && (backToKw cpos (keywordEach [] X.env)).all (fun x => x.1.isSome)
      && decide (([e, e2] : List Expr).length + ([] : List Keyword).length + (if ([] : List Keyword).isEmpty then 0 else 1) < 30)) = true := by rfl)
    (hline : (apos.endLine == cpos.line) = true := by rfl) (hs : starEach [e, e2] X.env = (false, eval e X.env) :: starEach [e2] X.env := by rfl) (hs2 : starEach [e2] X.env = (false, eval e2 X.env) :: starEach [] X.env := by rfl) (hplain : (backTo cpos (starEach [e2] X.env)).any (·.1) = false := by rfl) :
    ZE X W false (.Call (.Attribute o "get" apos) [e, e2] [] cpos) (zMet isDnD gGetN f [o2, o3]) :=
  peImp (pe_bmN PySem.F.plainAttrs_dict PySem.F.slot_dict_get PySem.F.type_dict_get (mt_getN hu) he (pa_cons ha (pa_cons hb pa_nil hs2) hs) hbase hfew hline hs hplain) fun σ H Q ⟨c, ρ, Tt, tv, s, q⟩ => by
    exact ⟨c, ρ, Tt, tv, s, zmet_run (p1 := p1) (ps := [(p2, o2), (p3, o3)]) (ty := fun v H => ∃ a es, v = .ref a ∧ DnI X.prog X.w H a es) lr_getN (fun s h => top_dn (m := mOf X) s h) q⟩
end
/-! ### str of a whole number -/
section
variable {X : Cx} {W : WX} {pos q1 : Pos} {p : Bool} {o : Opd} {a : Expr}
end
section
variable {Q : D → Prop} {i : Int}
end
/-! ### a def that wants no repr under way -/
section
variable {X : Cx} {W : WX} {k : Nat} {x : Str} {ps : List Str} {φ : Fn} {p pos : Pos} {e : Expr} {es : List Expr} {os : List (Bool × Opd)} {os' : List Opd}
end
end Z

set_option Elab.async false
set_option linter.all false
set_option maxRecDepth 100000
set_option maxHeartbeats 4000000
/-! Z72: x > y, x <= y, x >= y of data of one shape. -/
namespace Z
open PySem PySem.Spec PyProof.Rows L2
section
variable {X : Cx}
end
section
variable {X : Cx} {W : WX} {p1 p2 : Bool} {o1 o2 : Opd} {a b : Expr} {pos : Pos}
end
end Z

set_option Elab.async false
set_option linter.all false
set_option maxRecDepth 100000
set_option maxHeartbeats 4000000
/-! Z73: d.get(k), d.get(k, x): keys that are numbers or texts; d.update(d2): keys that are tuples. -/
namespace Z
open PySem PySem.Spec PyProof.Rows L2
section
variable {X : Cx} {W : WX} {p1 p2 p3 : Bool} {o e e2 : Expr} {f : EF} {o2 o3 : Opd} {apos cpos : Pos}
end
end Z

set_option Elab.async false
set_option linter.all false
set_option maxRecDepth 100000
set_option maxHeartbeats 4000000
/-! Z74: min of two data of one shape. -/
namespace PySem
open PySem.W
section
variable {prog : Program} {w : World} {A : Around} {E : Value → Shared → Prop} {s : Shared}
end
end PySem
namespace Z
open PySem PySem.Spec PyProof.Rows L2 PySem.W
section
variable {X : Cx}
end
section
variable {X : Cx} {W : WX} {p1 p2 : Bool} {o1 o2 : Opd} {a b : Expr} {pos q1 : Pos}
end
end Z

set_option Elab.async false
set_option linter.all false
set_option maxRecDepth 100000
set_option maxHeartbeats 4000000
/-! Z75: an expression that only reads, on the slots as if nobody changed them any more (what is owned stays owned); for over a tuple's items that go over into the target. -/
namespace Z
open PySem PySem.Spec PyProof.Rows L2
section
variable {m : M} {c : Cz} {ρ : Env} {T : List D} {σ : Sl} {tv : List V} {H F : Hp} {A B : List Addr} {W : WX}
def Cz.re (c : Cz) (F H : Hp) (A : List Addr) : Cz := ⟨F, H, A, c.par⟩
theorem ZSx.base (s : ZSx m c ρ T σ tv H F A B) : ZS m (c.re F H (A ++ B)) ρ T σ tv H :=
  ⟨F, A, B, s.sub, s.sl, s.tm, s.nd, s.nf, Same.refl _, fun a o h => .inl h, fun a h => .inl h, fun a o h _ => h, fun a h => h, s.par⟩
theorem ZSx.unbase {ρ' : Env} {T' : List D} {σ' : Sl} {tv' : List V} {H' : Hp} (s : ZSx m c ρ T σ tv H F A B) (s' : ZS m (c.re F H (A ++ B)) ρ' T' σ' tv' H') : ZS m c ρ' T' σ' tv' H' := by
  obtain ⟨F', A', B', s'⟩ := s'
  have ow : ∀ a, a ∈ A ++ B ∨ H a = none → a ∈ c.A ∨ c.H a = none := fun a h => h.elim (s.own a) (fun z => .inr (s.thr a z))
  refine ⟨F', A', B', s'.sub, s'.sl, s'.tm, s'.nd, s'.nf, s.fin.trans s'.fin, fun a o h => ?_, fun a h => ow a (s'.own a h), fun a o h n => ?_, fun a h => s.thr a (s'.thr a h), s'.par⟩
  · rcases s'.fnw a o h with z | z
    · exact s.fnw a o z
    · exact .inr (ow a z)
  · refine s'.keep a o (s.keep a o h n) fun z => ?_
    rcases s.own a z with z | z
    · exact n z
    · rw [h] at z; cases z
theorem SPost.base {E : Ends} {r : R Fl} (s : ZSx m c ρ T σ tv H F A B) {T' : List D} {tv' : List V} (q : SPost m W c T' tv' E r) : SPost m W (c.re F H (A ++ B)) T' tv' E r := by
  cases r with
  | stuck => exact q
  | ex e ρ' => exact fun cls dx σ' H' z s' => q cls dx σ' H' (z.base fun a h => s.thr a h) (s.unbase s')
  | ok fl ρ' =>
    cases fl with
    | nx => exact fun σ' H' s' => q σ' H' (s.unbase s')
    | bk => exact fun σ' H' s' => q σ' H' (s.unbase s')
    | ct => exact fun σ' H' s' => q σ' H' (s.unbase s')
    | rt d => exact fun v σ' H' s' => q v σ' H' (s.unbase s')
theorem RepE.freeze {F' H' : Hp} (e : Same F F') : ∀ {σ : Sl} {ρ : Env} {A : List Addr}, RepE m F H σ ρ A → (∀ b ∈ A, F' b = H b) → RepE m F' H' σ (ρ.map (Option.map D.frz)) []
  | _, _, _, .nil, _ => .nil
  | _, _, _, .no r, k => .no (RepE.freeze e r k)
  | _, _, _, .yes h r, k => .yes (A := []) (B := []) (h.freeze e fun b hb => k b (List.mem_append_left _ hb)) (RepE.freeze e r fun b hb => k b (List.mem_append_right _ hb))
end
/-! ### read on a frozen copy -/
section
variable {X : Cx} {W : WX} {e : Expr} {p : Bool} {f : EF}
end
section
variable {X : Cx} {W : WX} {kp : List Nat} {n : Nat}
end
section
variable {X : Cx} {W : WX} {e : Expr} {t : TF}
end
/-! ### for over items that go over -/
section
variable {m : M} {c : Cz} {ρ : Env} {T : List D} {σ : Sl} {tv : List V} {H F : Hp} {A B : List Addr} {W : WX}
end
section
variable {X : Cx} {W : WX} {kp : List Nat} {pos p2 : Pos} {p : Bool} {e k : Expr} {i n : Nat} {f : EF}
end
end Z

set_option Elab.async false
set_option linter.all false
set_option maxRecDepth 100000
set_option maxHeartbeats 4000000
/-! Z76: tuples made here (known to have no dict of their own): tuple(list), as any tuple, t.index(x). -/
namespace Z
open PySem PySem.Spec PyProof.Rows L2
def gTupN : D → Option D
  | .nd (.lst _) xs => if pureL xs = true then some (.nd .tpn xs) else none
  | _ => none
def D.wk : D → D
  | .nd .tpn xs => .nd .tup xs
  | d => d
section
variable {m : M} {c : Cz} {ρ : Env} {T : List D} {σ : Sl} {tv : List V} {H F : Hp} {A B : List Addr}
theorem Rep.wk {v : V} {d : D} (r : Rep m F H v d A) : Rep m F H v d.wk A := by
  unfold D.wk
  split
  · cases r with
    | fz h1 h2 h3 h4 =>
      obtain ⟨o, h2, _⟩ := h2
      refine .fz (k := .tup) rfl (.inl (.inr ⟨o, h2⟩)) h3 (.inl ⟨rfl, .inr ⟨o, h2⟩⟩)
    | ow h1 h2 h3 => exact h2.elim
  · exact r
theorem ZS.wk {d : D} {v : V} (s : ZS m c ρ (d :: T) σ (v :: tv) H) : ZS m c ρ (d.wk :: T) σ (v :: tv) H := by
  obtain ⟨F, A, B, s⟩ := s
  cases id s.tm with
  | cons h r => exact ⟨F, A, _, s.tmPerm (.cons h.wk r) ⟨[], List.Perm.refl _⟩⟩
end
def zWk (f : EF) : EF := fun ρ => (f ρ).bind fun d ρ' => .ok d.wk ρ'
section
variable {X : Cx} {W : WX} {e a : Expr} {p : Bool} {f : EF} {o : Opd} {p1 pos : Pos}
end
theorem wp_zWk {f : EF} {ρ : Env} {Q : D → Env → Prop} : wp (zWk f) ρ Q ↔ wp f ρ fun d ρ' => Q d.wk ρ' := wp_bnd

/-! ### t.index(x) -/
section
variable {X : Cx} {W : WX} {o e : Expr} {es : List Expr} {to : TE} {t : TA} {name : Str} {apos cpos : Pos} {id : String} {r : V → List V → Hp → VK → Prop}
end
def gIdxT : List D → Option D
  | [.nd .tpn xs, y] => if (D.nd .tup xs).ok = true ∧ y.ok = true then (fstIx y xs 0).map fun i => .at (.int (i : Nat)) else none
  | _ => none
def isTpn : D → Bool
  | .nd .tpn _ => true
  | _ => false
def idxCT (f : EF) (o2 : Opd) (ρ : Env) : R D → R D
  | .ok d _ => if isTpn d = true then zOps gIdxT [.v f, o2] ρ else .stuck
  | .ex x ρ1 => .ex x ρ1
  | .stuck => .stuck
def zIdxT (f : EF) (o2 : Opd) : EF := fun ρ => idxCT f o2 ρ (f ρ)
section
variable {X : Cx} {W : WX} {p1 p2 : Bool} {o e : Expr} {f : EF} {o2 : Opd} {apos cpos : Pos}
end
section
variable {f : EF} {o2 : Opd} {ρ : Env} {Q : D → Env → Prop}
theorem wp_zIdxT (h : wp f ρ (fun d ρ1 => isTpn d = true ∧ wp (evO [o2]) ρ1 fun r ρ2 => opt ((fillO r ρ2).bind fun es => gIdxT (d :: es)) fun v => Q v ρ2)) : wp (zIdxT f o2) ρ Q := by
  unfold wp at h ⊢
  cases e1 : f ρ with
  | stuck => rw [e1] at h; exact h.elim
  | ex x ρ1 => rw [e1] at h; exact h.elim
  | ok d ρ1 =>
    rw [e1] at h
    obtain ⟨hl, h⟩ := h
    have e : zIdxT f o2 ρ = zOps gIdxT [.v f, o2] ρ := by
      unfold zIdxT
      rw [e1]
      exact if_pos hl
    rw [e]
    cases e2 : evO [o2] ρ1 with
    | stuck => rw [e2] at h; exact h.elim
    | ex x ρ2 => rw [e2] at h; exact h.elim
    | ok r ρ2 =>
      rw [e2] at h
      have h : opt ((fillO r ρ2).bind fun es => gIdxT (d :: es)) fun v => Q v ρ2 := h
      have e7 : evO [.v f, o2] ρ = .ok (.inl d :: r) ρ2 := by
        rw [evO, e1]
        show (evO [o2] ρ1).bind _ = _
        rw [e2]
        rfl
      have e5 : (fillO (Sum.inl d :: r) ρ2).bind gIdxT = (fillO r ρ2).bind fun es => gIdxT (d :: es) := by
        rw [fillO]
        cases fillO r ρ2 <;> rfl
      unfold opt at h
      cases e6 : (fillO r ρ2).bind fun es => gIdxT (d :: es) with
      | none => rw [e6] at h; exact h.elim
      | some v =>
        rw [e6] at h
        have e8 : zOps gIdxT [.v f, o2] ρ = .ok v ρ2 := by
          unfold zOps
          rw [e7]
          show (match (fillO (Sum.inl d :: r) ρ2).bind gIdxT with
            | some d => R.ok d ρ2
            | none => .stuck) = _
          rw [e5, e6]
        rw [e8]
        exact h
end
end Z

set_option Elab.async false
set_option linter.all false
set_option maxRecDepth 100000
set_option maxHeartbeats 4000000
/-! Z77: tuples made here, plain. -/
namespace Z
open PySem PySem.Spec PyProof.Rows L2
theorem o_tupN {o : Bool} {xs : List D} {Q : D → Prop} (h : pureL xs = true) (k : Q (.nd .tpn xs)) : opt (one1 gTupN [.nd (.lst o) xs]) Q := by
  refine opt_of (b := .nd .tpn xs) ?_ k
  show (if pureL xs = true then some (D.nd .tpn xs) else none) = _
  rw [if_pos h]
section
variable {ρ : Env} {i : Nat} {xs : List D} {Q : D → Env → Prop}
theorem pure_tpn (h : pureL xs = true) : (D.nd .tpn xs).pure = true := by
  rw [D.pure, h]
  rfl
theorem wk_var (h : ρ[i]? = some (some (.nd .tpn xs))) (hp : pureL xs = true) (k : Q (.nd .tup xs) ρ) : wp (zWk (eVar i)) ρ Q := wp_zWk.mpr (var_pure h (pure_tpn hp) k)
theorem wk_varT (h : ρ[i]? = some (some (.nd .tup xs))) (hp : pureL xs = true) (k : Q (.nd .tup xs) ρ) : wp (zWk (eVar i)) ρ Q := wp_zWk.mpr (var_pure h (by rw [D.pure, hp]; rfl) k)
theorem idxT_var {o2 : Opd} (h : ρ[i]? = some (some (.nd .tpn xs))) (hp : pureL xs = true) (k : wp (evO [o2]) ρ fun r ρ2 => opt ((fillO r ρ2).bind fun es => gIdxT (.nd .tpn xs :: es)) fun v => Q v ρ2) : wp (zIdxT (eVar i) o2) ρ Q :=
  wp_zIdxT (var_pure h (pure_tpn hp) ⟨rfl, k⟩)
end
end Z

set_option Elab.async false
set_option linter.all false
set_option maxRecDepth 100000
set_option maxHeartbeats 4000000
/-! Z78: d.setdefault(k, []).append(x) of a name, k any expression. -/
namespace Z
open PySem PySem.Spec PyProof.Rows L2
section
variable {X : Cx} {W : WX} {o ke xe : Expr} {i l : Nat} {q : Plc} {f : EF} {a1 c1 a2 c2 p3 : Pos} {p1 : Bool}
end
end Z

set_option Elab.async false
set_option linter.all false
set_option maxRecDepth 100000
set_option maxHeartbeats 4000000
/-! Z79: a list taken apart by names. -/
namespace Z
open PySem PySem.Spec PyProof.Rows L2
theorem tgp_tgLs {gs : List TgF} {o : Bool} {ds : List D} {ρ : Env} {Q : Env → Prop} : tgp (tgLs gs) (.nd (.lst o) ds) ρ Q ↔ opt (tgL gs ds ρ) Q := by
  show (match tgL gs ds ρ with | some r => Q r | none => False) ↔ _
  unfold opt
  cases tgL gs ds ρ <;> exact Iff.rfl
end Z

set_option Elab.async false
set_option linter.all false
set_option maxRecDepth 100000
set_option maxHeartbeats 4000000
/-! Z80: an owned slot lent for reading while an expression runs that may change the others. -/
namespace Z
open PySem PySem.Spec PyProof.Rows L2
section
variable {m : M}
end
section
variable {X : Cx} {W : WX} {e : Expr} {p : Bool} {f : EF} {i : Nat}
end
end Z

set_option Elab.async false
set_option linter.all false
set_option maxRecDepth 100000
set_option maxHeartbeats 4000000
/-! Z81: zip of three tuples. -/
namespace Z
open PySem PySem.Spec PyProof.Rows L2
def zip3D : List D → List D → List D → List D
  | x :: xs, y :: ys, z :: zs => .nd .tup [x, y, z] :: zip3D xs ys zs
  | _, _, _ => []
def three : D → D → D → Option (List D × List D × List D)
  | .nd .tup xs, .nd .tup ys, .nd .tup zs => some (xs, ys, zs)
  | _, _, _ => none
def src3 (t : List D × List D × List D) : List D × List D := ([.nd .tup (frzL t.2.2), .nd .tup (frzL t.2.1), .nd .tup (frzL t.1)], zip3D (frzL t.1) (frzL t.2.1) (frzL t.2.2))
def zZip3 (f g k : EF) : IF := fun ρ => (f ρ).bind fun a ρ1 => (g ρ1).bind fun b ρ2 => (k ρ2).bind fun d ρ3 => match three a b d with
  | some t => .ok (src3 t) ρ3
  | none => .stuck
section
variable {f g k : EF} {ρ : Env}
theorem wp_zZip3 {Q : List D × List D → Env → Prop} : wp (zZip3 f g k) ρ Q ↔ wp f ρ fun a ρ1 => wp g ρ1 fun b ρ2 => wp k ρ2 fun d ρ3 => opt (three a b d) fun t => Q (src3 t) ρ3 := wp_bnd.trans (wp_ext fun a ρ1 => wp_bnd.trans (wp_ext fun b ρ2 => wp_bnd.trans (wp_ext fun d ρ3 => by
  unfold opt wp
  dsimp only
  cases three a b d <;> exact Iff.rfl)))
end
section
variable {m : M}
end
section
variable {X : Cx} {W : WX} {e1 e2 e3 : Expr} {p1 p2 p3 : Bool} {f g k : EF} {p pos tpos : Pos} {elts : List Expr} {kk : Nat}
end
end Z

set_option Elab.async false
set_option linter.all false
set_option maxRecDepth 100000
set_option maxHeartbeats 4000000
/-! Z82: d.update(d2) of dicts whose keys are tuples and whose values are all True. -/
namespace Z
open PySem PySem.Spec PyProof.Rows L2
section
variable {X : Cx} {W : WX} {o e : Expr} {apos cpos : Pos} {i : Nat} {p : List Stp} {f : EF} {p1 : Bool}
end
end Z

set_option Elab.async false
set_option linter.all false
set_option maxRecDepth 100000
set_option maxHeartbeats 4000000
/-! Z83: sorted() of numbers, and of lists of numbers. -/
namespace Z
open PySem PySem.Spec PyProof.Rows L2 PySem.W
end Z

set_option Elab.async false
set_option linter.all false
set_option maxRecDepth 100000
set_option maxHeartbeats 4000000
/-! Z84: a slot read that may hold a tuple made here, or none. -/
namespace Z
open PySem PySem.Spec PyProof.Rows L2
theorem wk_at {ρ : Env} {i : Nat} {a : At} {Q : D → Env → Prop} (h : ρ[i]? = some (some (.at a))) (k : Q (.at a) ρ) : wp (zWk (eVar i)) ρ Q := wp_zWk.mpr (var_at h k)
end Z

set_option Elab.async false
set_option linter.all false
set_option maxRecDepth 100000
set_option maxHeartbeats 4000000
/-! Z85: sorted() of a temporary list that hands on what its items own. -/
namespace Z
open PySem PySem.Spec PyProof.Rows L2 PySem.W
/-! ### sorted that hands on -/
section
variable {X : Cx} {W : WX} {p1 : Bool} {e : Expr} {f : EF} {p pos : Pos}
end
end Z

set_option Elab.async false
set_option linter.all false
set_option maxRecDepth 100000
set_option maxHeartbeats 4000000
/-! Z86: d[k].append(x) of slots, the keys tuples; dict(..) of pairs with unlike keys that hands on what the values own. -/
namespace Z
open PySem PySem.Spec PyProof.Rows L2

/-! ### d[k].append(x) -/
section
variable {X : Cx} {W : WX} {o ke xe : Expr} {i j l : Nat} {a2 c2 p3 : Pos}
end

/-! ### dict(..) that hands on -/
section
variable {m : M} {F H : Hp}
end
section
variable {m : M} {c : Cz} {ρ : Env} {T : List D} {σ : Sl} {tv : List V} {H F : Hp} {A B : List Addr}
/-- a new owned object; what is frozen is known -/
theorem ZSx.newO {k : Kd} {ds : List D} {vs : List V} {p : Addr} {o : HO} (s : ZSx m c ρ (ds ++ T) σ (vs ++ tv) H F A B) (hl : ds.length = vs.length) (hp : H p = none) (hk : k.own = true) (ho : ObjO m F (upd H p o) k p vs []) :
    ZS m c ρ (.nd k ds :: T) σ (.ref p :: tv) (upd H p o) := by
  obtain ⟨B1, B2, r1, r2, rfl⟩ := Reps.mid hl s.tm
  have ne : ∀ b ∈ A ++ (B1 ++ B2), b ≠ p := fun b hb e => by
    obtain ⟨x, hx⟩ : ∃ o, H b = some o := (List.mem_append.mp hb).elim (s.sl.there b) (s.tm.there b)
    rw [e, hp] at hx; cases hx
  have k1 : ∀ b ∈ A ++ (B1 ++ B2), (upd H p o) b = H b := fun b hb => upd_ne (ne b hb)
  have pp : (A ++ (p :: ([] ++ B1) ++ B2)).Perm (p :: (A ++ (B1 ++ B2))) := by
    show (A ++ (p :: (B1 ++ B2))).Perm _
    exact List.perm_middle
  refine ⟨F, A, (p :: ([] ++ B1)) ++ B2, (s.sub.trans (updSame hp)), s.sl.mono (Same.refl _) fun b hb => k1 b (List.mem_append_left _ hb),
    .cons (.ow hk ho (r1.mono (Same.refl _) fun b hb => k1 b (List.mem_append_right _ (List.mem_append_left _ hb)))) (r2.mono (Same.refl _) fun b hb => k1 b (List.mem_append_right _ (List.mem_append_right _ hb))),
    ?_, fun a ha => ?_, s.fin, s.fnw, fun a ha => ?_, fun a x h1 h2 => updSame hp _ _ (s.keep a x h1 h2), fun a h => s.thr a ((updSame hp).free h), s.par⟩
  · rw [pp.nodup_iff, List.nodup_cons]
    exact ⟨fun z => ne p z rfl, s.nd⟩
  · rcases List.mem_cons.mp (pp.mem_iff.mp ha) with rfl | h
    · cases q : F a with
      | none => rfl
      | some x => rw [s.sub _ _ q] at hp; cases hp
    · exact s.nf a h
  · rcases List.mem_cons.mp (pp.mem_iff.mp ha) with rfl | h
    · exact .inr (s.thr a hp)
    · exact s.own a h
end
section
variable {X : Cx} {W : WX} {p1 : Bool} {e : Expr} {f : EF} {q1 pos : Pos}
end
end Z

set_option Elab.async false
set_option linter.all false
set_option maxRecDepth 100000
set_option maxHeartbeats 4000000
/-! Z87: texts: a.join(xs), a.split(b); range(i, j, -1). -/
namespace Z
open PySem PySem.Spec PyProof.Rows L2

/-! ### range(i, j, -1) -/
def downD (i j : Int) : List D := (List.range (i - j).toNat).map fun k => .at (.int (i - (k : Nat)))
def zRngD (f g : EF) : IF := fun ρ => (evI f ρ).bind fun i ρ1 => (evI g ρ1).bind fun j ρ2 => if inR62 i = true ∧ inR62 j = true then .ok ([], downD i j) ρ2 else .stuck
theorem downD_get {i j : Int} {k : Nat} {x : D} (h : (downD i j)[k]? = some x) : k < (i - j).toNat ∧ x = .at (.int (i - (k : Nat))) := by
  unfold downD at h
  rw [List.getElem?_map] at h
  obtain ⟨n, h1, rfl⟩ := Option.map_eq_some_iff.mp h
  obtain ⟨h2, h3⟩ := List.getElem?_eq_some_iff.mp h1
  rw [List.length_range] at h2
  rw [List.getElem_range] at h3
  subst h3
  exact ⟨h2, rfl⟩
theorem downD_len {i j : Int} : (downD i j).length = (i - j).toNat := by
  unfold downD
  rw [List.length_map, List.length_range]
section
variable {X : Cx} {W : WX} {tg a b : Expr} {p1 p2 : Bool} {f g : EF} {p pos p4 p5 : Pos} {n1 : Nat}
theorem yields_down {m : M} {i j : Int} : Yields m [] (downD i j) [] (Itc i (-1) (i - j).toNat) := by
  intro c ρ T σ tv H k s
  refine ⟨fun x hx => ?_, fun hi' => ?_⟩
  · obtain ⟨h1, rfl⟩ := downD_get hx
    refine ⟨h1, fun xv H' hy => ?_⟩
    obtain ⟨rfl, rfl⟩ := hy
    have e : i + (k : Nat) * (-1) = i - (k : Nat) := by omega
    rw [e]
    exact s.pushA (.int _)
  · rw [downD_len] at hi'
    exact hi'
theorem zi_rangeD (hg : Gl X "range") (hm : X.mg "range" = none) (ha : ZE X W p1 a f) (hb : ZE X W p2 b g)
    (he : starEach [a, b, .UnaryOp .USub (.Constant (.int 1) n1 p4) p5] X.env = (false, eval a X.env) :: starEach [b, .UnaryOp .USub (.Constant (.int 1) n1 p4) p5] X.env := by rfl)
    (he2 : starEach [b, .UnaryOp .USub (.Constant (.int 1) n1 p4) p5] X.env = (false, eval b X.env) :: starEach [.UnaryOp .USub (.Constant (.int 1) n1 p4) p5] X.env := by rfl)
    (he3 : starEach [.UnaryOp .USub (.Constant (.int 1) n1 p4) p5] X.env = (false, eval (.UnaryOp .USub (.Constant (.int 1) n1 p4) p5) X.env) :: starEach [] X.env := by rfl)
    (hpl : (backTo pos (starEach [b, .UnaryOp .USub (.Constant (.int 1) n1 p4) p5] X.env)).any (·.1) = false := by rfl) :
    ZI X W tg (.Call (.Name "range" p) [a, b, .UnaryOp .USub (.Constant (.int 1) n1 p4) p5] [] pos) (zRngD f g) :=
  piImp (pi_range3 hg hm (pa_cons ha (pa_cons hb (pa_cons pe_kneg pa_nil he3) he2) he) he hpl) fun σ H Q ⟨c, ρ, T, tv, s, q⟩ => by
    refine tZ_int s (((IPost.bind q).weak).mono fun i H1 ⟨ρ1, s1, q1⟩ => ?_)
    refine tZ_int s1 (((IPost.bind q1).weak).mono fun j H2 ⟨ρ2, s2, q2⟩ => ?_)
    split at q2
    · rename_i hj
      obtain ⟨h1, h2⟩ := of_decide_eq_true hj.1
      obtain ⟨h3, h4⟩ := of_decide_eq_true hj.2
      exact ⟨i, j, -1, (i - j).toNat, rfl, RgC.neg h1 h2 h3 h4, q2 [] [] _ _ rfl s2 yields_down⟩
    · exact q2.elim
end
section
variable {f g : EF} {ρ : Env} {Q : List D × List D → Env → Prop}
theorem wp_zRngD : wp (zRngD f g) ρ Q ↔ wp (evI f) ρ fun i ρ1 => wp (evI g) ρ1 fun j ρ2 => (inR62 i = true ∧ inR62 j = true) ∧ Q ([], downD i j) ρ2 := wp_bnd.trans (wp_ext fun i ρ1 => wp_bnd.trans (wp_ext fun j ρ2 => by
  unfold wp
  dsimp only
  by_cases h : inR62 i = true ∧ inR62 j = true
  · rw [if_pos h]; exact ⟨fun q => ⟨h, q⟩, fun q => q.2⟩
  · rw [if_neg h]; exact ⟨fun q => q.elim, fun q => absurd q.1 h⟩))
end

/-! ### a.join(xs), a.split(b) -/
def isStrD : D → Bool
  | .at (.str _) => true
  | _ => false
theorem top_str {m : M} {c : Cz} {ρ : Env} {T : List D} {σ : Sl} {v : V} {tv : List V} {H : Hp} {d : D} (s : ZS m c ρ (d :: T) σ (v :: tv) H) (h : isStrD d = true) : tyV m.K "str" v H := by
  obtain ⟨F, A, B, z⟩ := s
  unfold isStrD at h
  split at h
  · cases id z.tm with
    | cons r _ =>
      cases rep_at r
      exact rfl
  · cases h
def strOf : D → Option Str
  | .at (.str x) => some x
  | _ => none
abbrev strD (x : Str) : D := .at (.str x)
theorem reps_strs {m : M} {F H : Hp} : ∀ {vs : List V} {ds : List D} {A : List Addr} {ys : List Str}, Reps m F H vs ds A → allSome strOf ds = some ys → vs = ys.map V.str
  | _, _, _, _, .nil, h => by
    rw [allSome] at h; cases h; rfl
  | _, _, _, _, .cons h1 r, h => by
    rw [allSome] at h
    obtain ⟨x, e1, e2⟩ := Option.bind_eq_some_iff.mp h
    obtain ⟨ys, e3, rfl⟩ := Option.map_eq_some_iff.mp e2
    unfold strOf at e1
    split at e1
    · cases e1
      cases rep_at h1
      rw [reps_strs r e3]
      rfl
    · cases e1
def gJoin : List D → Option D
  | [.at (.str a), x] => (lstI x).bind fun xs => (allSome strOf xs).bind fun ys => if (ys.map (·.length)).sum + ys.length * a.length ≤ 16777216 then some (.at (.str (Txt.join a ys))) else none
  | _ => none
def rJoin (K : PySem.W.Frag) : V → List V → Hp → VK → Prop := fun x xs H Q => ∃ a p, ∃ ys : List Str, x = .str a ∧ xs = [.ref p] ∧ (SqL K H p (ys.map V.str) ∨ SqT K H p (ys.map V.str)) ∧ (ys.map (·.length)).sum + ys.length * a.length ≤ 16777216 ∧ Q (.str (Txt.join a ys)) H
theorem lr_join {m : M} : LR m (fun vs H Q => ∃ x ys, vs = x :: ys ∧ rJoin m.K x ys H Q) gJoin := by
  intro F H vs ds A d Q sm rs hg y
  unfold gJoin at hg
  split at hg
  · rename_i a x
    obtain ⟨x1, y1, rfl, ⟨_, r1⟩, _, r2⟩ := reps2 rs
    obtain ⟨xs, h1, hg⟩ := Option.bind_eq_some_iff.mp hg
    obtain ⟨ys, h2, hg⟩ := Option.bind_eq_some_iff.mp hg
    split at hg
    · rename_i hz
      cases hg
      cases rep_at r1
      obtain ⟨p, us, B, rfl, e1, e2⟩ := rep_lstI r2 sm h1
      have eu := reps_strs e2 h2
      subst eu
      exact ⟨_, _, rfl, a, p, ys, rfl, rfl, .inl e1, hz, y.atom sm⟩
    · cases hg
  · cases hg
section
variable {X : Cx} {W : WX} {p1 p2 : Bool} {o e : Expr} {f : EF} {o2 : Opd} {apos cpos : Pos}
theorem ze_join (he : ZE X W p1 o f) (ha : ZO X W p2 e o2)
    (hbase : attributeBase o "join" X.env (eval o X.env) = eval o X.env := by rfl)
    (hfew : ((backTo cpos (starEach [e] X.env)).all (fun x => !x.1) && (backToKw cpos (keywordEach [] X.env)).all (fun x => x.1.isSome)
      && decide (([e] : List Expr).length + ([] : List Keyword).length + (if ([] : List Keyword).isEmpty then 0 else 1) < 30)) = true := by rfl)
    (hline : (apos.endLine == cpos.line) = true := by rfl) (hs : starEach [e] X.env = (false, eval e X.env) :: starEach [] X.env := by rfl) (hplain : (backTo cpos (starEach [] X.env)).any (·.1) = false := by rfl) :
    ZE X W false (.Call (.Attribute o "join" apos) [e] [] cpos) (zMet isStrD gJoin f [o2]) :=
  peImp (pe_bm PySem.F.plainAttrs_str PySem.F.slot_str_join PySem.F.type_str_join mt_join he (pa_cons ha pa_nil hs) hbase hfew hline hs hplain) fun σ H Q ⟨c, ρ, Tt, tv, s, q⟩ => by
    exact ⟨c, ρ, Tt, tv, s, zmet_run (p1 := p1) (ps := [(p2, o2)]) (ty := fun v H => tyV X.K "str" v H) lr_join (fun s h => top_str (m := mOf X) s h) q⟩
end
section
variable {Q : D → Prop} {a : Str} {o : Bool} {ys : List Str}
theorem allSome_str : ∀ ys : List Str, allSome strOf (ys.map strD) = some ys
  | [] => rfl
  | y :: ys => by
    rw [List.map_cons, allSome]
    show (some y).bind _ = _
    rw [Option.bind_some, allSome_str ys]
    rfl
theorem o_join (h : (ys.map (·.length)).sum + ys.length * a.length ≤ 16777216) (k : Q (.at (.str (Txt.join a ys)))) : opt (gJoin [.at (.str a), .nd (.lst o) (ys.map strD)]) Q := by
  refine opt_of (b := .at (.str (Txt.join a ys))) ?_ k
  show (allSome strOf (ys.map strD)).bind _ = _
  rw [allSome_str, Option.bind_some, if_pos h]
end
end Z

set_option Elab.async false
set_option linter.all false
set_option maxRecDepth 100000
set_option maxHeartbeats 0
namespace HT
open PySem PySem.Spec PyProof.Rows L2 Z
noncomputable section
def topS (i : Nat) : Stmt := PySem.Challenge.pw_slidehall_k56_halls_written.main.body.getD i (.Pass ⟨0, 0, 0, 0⟩)
abbrev s_covered : Stmt := topS 1
abbrev s_picture_of : Stmt := topS 8
abbrev s_way_row : Stmt := topS 9
abbrev s_hall_text : Stmt := topS 10
abbrev s__law_begin : Stmt := topS 12
abbrev s__law_take : Stmt := topS 13
abbrev s__law_same : Stmt := topS 14
abbrev s__law_covered : Stmt := topS 15
abbrev s__law_room_of : Stmt := topS 16
abbrev s__law_sized : Stmt := topS 17
abbrev s__law_kind : Stmt := topS 18
abbrev s__law_hall : Stmt := topS 19
abbrev s__law_picture : Stmt := topS 20
abbrev s__law_text : Stmt := topS 21
abbrev s_law : Stmt := topS 22
abbrev c_STRENGTHS : D := .nd .tup [.at (.str ("" : Str)), .at (.str (" strong" : Str)), .at (.str (" dull" : Str))]
end
end HT

namespace HT
open PySem PySem.Spec PyProof.Rows L2 Z
def d_covered : He.DefD := ⟨("covered", none), "covered", "covered", defArgs s_covered, defBody s_covered, defScope s_covered, [], []⟩
def d_picture_of : He.DefD := ⟨("picture_of", none), "picture_of", "picture_of", defArgs s_picture_of, defBody s_picture_of, defScope s_picture_of, [], []⟩
def d_way_row : He.DefD := ⟨("way_row", none), "way_row", "way_row", defArgs s_way_row, defBody s_way_row, defScope s_way_row, [], []⟩
def d_hall_text : He.DefD := ⟨("hall_text", none), "hall_text", "hall_text", defArgs s_hall_text, defBody s_hall_text, defScope s_hall_text, [], []⟩
def d__law_begin : He.DefD := ⟨("_law_begin", none), "_law_begin", "_law_begin", defArgs s__law_begin, defBody s__law_begin, defScope s__law_begin, [], []⟩
def d__law_take : He.DefD := ⟨("_law_take", none), "_law_take", "_law_take", defArgs s__law_take, defBody s__law_take, defScope s__law_take, [], []⟩
def d__law_same : He.DefD := ⟨("_law_same", none), "_law_same", "_law_same", defArgs s__law_same, defBody s__law_same, defScope s__law_same, [], []⟩
def d__law_covered : He.DefD := ⟨("_law_covered", none), "_law_covered", "_law_covered", defArgs s__law_covered, defBody s__law_covered, defScope s__law_covered, [], []⟩
def d__law_room_of : He.DefD := ⟨("_law_room_of", none), "_law_room_of", "_law_room_of", defArgs s__law_room_of, defBody s__law_room_of, defScope s__law_room_of, [], []⟩
def d__law_sized : He.DefD := ⟨("_law_sized", none), "_law_sized", "_law_sized", defArgs s__law_sized, defBody s__law_sized, defScope s__law_sized, [], []⟩
def d__law_kind : He.DefD := ⟨("_law_kind", none), "_law_kind", "_law_kind", defArgs s__law_kind, defBody s__law_kind, defScope s__law_kind, [], []⟩
def d__law_hall : He.DefD := ⟨("_law_hall", none), "_law_hall", "_law_hall", defArgs s__law_hall, defBody s__law_hall, defScope s__law_hall, [], []⟩
def d__law_picture : He.DefD := ⟨("_law_picture", none), "_law_picture", "_law_picture", defArgs s__law_picture, defBody s__law_picture, defScope s__law_picture, [], []⟩
def d__law_text : He.DefD := ⟨("_law_text", none), "_law_text", "_law_text", defArgs s__law_text, defBody s__law_text, defScope s__law_text, [], []⟩
def d_law : He.DefD := ⟨("law", none), "law", "law", defArgs s_law, defBody s_law, defScope s_law, [], []⟩
def fn : List He.DefD := [d_covered, d_picture_of, d_way_row, d_hall_text, d__law_begin, d__law_take, d__law_same, d__law_covered, d__law_room_of, d__law_sized, d__law_kind, d__law_hall, d__law_picture, d__law_text, d_law]
def fa : List He.Fa := [.glo "covered", .glo "picture_of", .glo "way_row", .glo "hall_text", .glo "_law_begin", .glo "_law_take", .glo "_law_same", .glo "_law_covered", .glo "_law_room_of", .glo "_law_sized", .glo "_law_kind", .glo "_law_hall", .glo "_law_picture", .glo "_law_text", .glo "law", .free "all", .free "any", .free "bool", .free "dict", .free "divmod", .free "enumerate", .free "int", .free "isinstance", .free "len", .free "list", .free "min", .free "range", .free "reversed", .free "str", .free "tuple", .free "zip"]
def loose0 : List PySem.Str := ["covered", "HEAD", "WALL", "FREE", "LETTERS", "STRENGTHS", "picture_of", "way_row", "hall_text", "_law_begin", "_law_take", "_law_same", "_law_covered", "_law_room_of", "_law_sized", "_law_kind", "_law_hall", "_law_picture", "_law_text"]
def loose : List PySem.Str := loose0
def cs : Cs := ⟨[], [(("FREE" : Str), .at (.str ("." : Str))), (("HEAD" : Str), .at (.str ("hall" : Str))), (("LETTERS" : Str), .at (.str ("abcdefghijkl" : Str))), (("STRENGTHS" : Str), .nd .tup [.at (.str ("" : Str)), .at (.str (" strong" : Str)), .at (.str (" dull" : Str))]), (("WALL" : Str), .at (.str ("#" : Str)))], []⟩
abbrev R : PySem.W.OpenRow := PySem.W.OpenLaw.row PySem.Challenge.rw_slidehall_k56_halls_written
abbrev hk : PySem.W.Hook := hookC 4 fa fn cs
def ob (s : PySem.W.SharedT) : AlC := obsCG 4 fa fn cs (HandSHeadRun.getT s)
theorem ob_eq (s : PySem.W.SharedT) : ob s = hk.obs s.abs := obsCG_eq (HandSHeadRun.getT_eq s)
theorem run (w : World) : HandSHeadRun.RunEq R (PySem.W.view R.prog [22]) hk ob 6000 loose w := by
  intro os
  kernel_rfl
open PySem.W PySem.Calls in
theorem pre (hc : PySem.W.WalkO (PySem.W.view R.prog [22]) loose (PySem.W.XL (PySem.W.view R.prog [22]) []) hk.says R.toRowW (HandSHeadRun.topDef R.prog 22) [] fun f vs => PySem.call f vs) : PySem.Challenge.rw_slidehall_k56_halls_written.Holds := by
  w_on; o_law
  refine HandSHeadRun.head_any (r := PySem.W.OpenLaw.row PySem.Challenge.rw_slidehall_k56_halls_written) (q := PySem.W.view (PySem.W.OpenLaw.row PySem.Challenge.rw_slidehall_k56_halls_written).prog [22]) (H := hk) (ob := ob) (M := 6000) (loose := loose) (d := HandSHeadRun.topDef (PySem.W.OpenLaw.row PySem.Challenge.rw_slidehall_k56_halls_written).prog 22) (kwd := []) ob_eq
    (by kernel_rfl) (fun s => by kernel_rfl) run (by kernel_rfl) (by kernel_rfl) (by kernel_rfl) (by rfl) (by first | assumption | decide +kernel) (by decide +kernel) ⟨rfl, rfl, rfl, rfl, rfl, by decide +kernel⟩ ?hw hc
  case hw => w_witness2
theorem pre_nm : (HandSHeadRun.topDef R.prog 22).name = ("law" : PySem.Str) := by kernel_rfl
theorem pre_df : (HandSHeadRun.topDef R.prog 22).params.defaults = [] := by kernel_rfl
end HT

namespace HT
open PySem PySem.Spec PyProof.Rows L2 Z
noncomputable section
structure Fx (w : World) (K : PySem.W.Frag) (mg : Str → Option Value) : Prop where
  n_all : mg ("all" : Str) = none
  n_any : mg ("any" : Str) = none
  n_bool : mg ("bool" : Str) = none
  n_dict : mg ("dict" : Str) = none
  n_divmod : mg ("divmod" : Str) = none
  n_enumerate : mg ("enumerate" : Str) = none
  n_int : mg ("int" : Str) = none
  n_isinstance : mg ("isinstance" : Str) = none
  n_len : mg ("len" : Str) = none
  n_list : mg ("list" : Str) = none
  n_min : mg ("min" : Str) = none
  n_range : mg ("range" : Str) = none
  n_reversed : mg ("reversed" : Str) = none
  n_str : mg ("str" : Str) = none
  n_tuple : mg ("tuple" : Str) = none
  n_zip : mg ("zip" : Str) = none
  g_FREE : Gc w K mg ("FREE" : Str) (D.at (.str ("." : Str)))
  g_HEAD : Gc w K mg ("HEAD" : Str) (D.at (.str ("hall" : Str)))
  g_LETTERS : Gc w K mg ("LETTERS" : Str) (D.at (.str ("abcdefghijkl" : Str)))
  g_STRENGTHS : Gc w K mg ("STRENGTHS" : Str) (c_STRENGTHS)
  g_WALL : Gc w K mg ("WALL" : Str) (D.at (.str ("#" : Str)))
  m_covered : ∃ f fd, FnP K "covered" s_covered f fd ∧ mg ("covered" : Str) = some (.ref f)
  m_picture_of : ∃ f fd, FnP K "picture_of" s_picture_of f fd ∧ mg ("picture_of" : Str) = some (.ref f)
  m_way_row : ∃ f fd, FnP K "way_row" s_way_row f fd ∧ mg ("way_row" : Str) = some (.ref f)
  m_hall_text : ∃ f fd, FnP K "hall_text" s_hall_text f fd ∧ mg ("hall_text" : Str) = some (.ref f)
  m__law_begin : ∃ f fd, FnP K "_law_begin" s__law_begin f fd ∧ mg ("_law_begin" : Str) = some (.ref f)
  m__law_take : ∃ f fd, FnP K "_law_take" s__law_take f fd ∧ mg ("_law_take" : Str) = some (.ref f)
  m__law_same : ∃ f fd, FnP K "_law_same" s__law_same f fd ∧ mg ("_law_same" : Str) = some (.ref f)
  m__law_covered : ∃ f fd, FnP K "_law_covered" s__law_covered f fd ∧ mg ("_law_covered" : Str) = some (.ref f)
  m__law_room_of : ∃ f fd, FnP K "_law_room_of" s__law_room_of f fd ∧ mg ("_law_room_of" : Str) = some (.ref f)
  m__law_sized : ∃ f fd, FnP K "_law_sized" s__law_sized f fd ∧ mg ("_law_sized" : Str) = some (.ref f)
  m__law_kind : ∃ f fd, FnP K "_law_kind" s__law_kind f fd ∧ mg ("_law_kind" : Str) = some (.ref f)
  m__law_hall : ∃ f fd, FnP K "_law_hall" s__law_hall f fd ∧ mg ("_law_hall" : Str) = some (.ref f)
  m__law_picture : ∃ f fd, FnP K "_law_picture" s__law_picture f fd ∧ mg ("_law_picture" : Str) = some (.ref f)
  m__law_text : ∃ f fd, FnP K "_law_text" s__law_text f fd ∧ mg ("_law_text" : Str) = some (.ref f)
  m_law : ∃ f fd, FnP K "law" s_law f fd ∧ mg ("law" : Str) = some (.ref f)
/-! covered -/
abbrev N_covered : List Str := ["kind", "place", "found", "x", "y"]
abbrev P_covered : List Str := ["kind", "place"]
abbrev kp_covered : List Nat := [0, 1]
theorem sc_covered : FnScope N_covered P_covered (defScope s_covered) := ⟨rfl, rfl, rfl, by decide +kernel, rfl, by decide +kernel, by decide +kernel⟩
@[irreducible] def t_covered_0 : SF :=
  zRet (eMove 2)
theorem u_covered_0 {ρ : Z.Env} {Q : Fl → Z.Env → Prop} : wp (t_covered_0) ρ Q ↔ wp (zRet (eMove 2)) ρ Q := by
  unfold t_covered_0
  exact Iff.rfl
@[irreducible] def t_covered_1 : SF :=
  zSeq (zFor (zRng2 (zOps gIx [.p 1, .v (eC (.at (.int 0)))]) (zOps gAdd [.v (zOps gIx [.p 1, .v (eC (.at (.int 0)))]), .v (zOps gIx [.p 0, .v (eC (.at (.int 0)))])])) (tgN 3) (zEx (zMut "list" 2 [] uExtend [zLc 5 (zRng2 (zOps gIx [.p 1, .v (eC (.at (.int 1)))]) (zOps gAdd [.v (zOps gIx [.p 1, .v (eC (.at (.int 1)))]), .v (zOps gIx [.p 0, .v (eC (.at (.int 1)))])])) (tgN 4) none (zNew .tup [eVar 3, eVar 4]) [4]])))
  (t_covered_0)
theorem u_covered_1 {ρ : Z.Env} {Q : Fl → Z.Env → Prop} : wp (t_covered_1) ρ Q ↔ wp (zSeq (zFor (zRng2 (zOps gIx [.p 1, .v (eC (.at (.int 0)))]) (zOps gAdd [.v (zOps gIx [.p 1, .v (eC (.at (.int 0)))]), .v (zOps gIx [.p 0, .v (eC (.at (.int 0)))])])) (tgN 3) (zEx (zMut "list" 2 [] uExtend [zLc 5 (zRng2 (zOps gIx [.p 1, .v (eC (.at (.int 1)))]) (zOps gAdd [.v (zOps gIx [.p 1, .v (eC (.at (.int 1)))]), .v (zOps gIx [.p 0, .v (eC (.at (.int 1)))])])) (tgN 4) none (zNew .tup [eVar 3, eVar 4]) [4]])))
  (t_covered_0)) ρ Q := by
  unfold t_covered_1
  exact Iff.rfl
@[irreducible] def b_covered : SF :=
  zSeq (zSet (tgN 2) (zNew (.lst true) []))
  (t_covered_1)
@[irreducible] def f_covered : Fn := fnOf0 5 kp_covered b_covered
theorem sat_covered {ds : List D} {Q : D → Z.Env → Prop} : sat f_covered ds Q ↔ wp b_covered (fnEnv 5 ds) (fin (bkO kp_covered 0 ds.length) Q) := by
  unfold f_covered
  exact sat_fn
theorem nx_covered (ds : List D) (e : EX) (bk : Z.Env) : f_covered ds ≠ some (.exc e bk) := by
  unfold f_covered
  exact fnOf0_nox ds e bk
theorem dv_covered {P : Program} {w : World} {K : PySem.W.Frag} {mg : Str → Option Value} {base : Heap} {f : Addr} (hx : Fx w K mg) (cdv : Value) (A : Around) (outer : List PySem.Env) (s : Shared) (H : Hp) (E : XK) (hr : Room 0 (A.deeper (envOfC "covered" (defScope s_covered) s.heap.objs.size f cdv))) :
    ZB (cxOf CX0 P w K mg base N_covered "covered" (defScope s_covered) f cdv A outer s H E).nox W0 kp_covered (defBody s_covered) b_covered := by
  have hu := hu_64 hr
  have hu1 := hu_100 hr
  unfold b_covered t_covered_1 t_covered_0
  exact
  zb_cons (zs_set (ps_set sc_covered.nd rfl (by first | exact Or.inl rfl | exact Or.inr rfl) (ze_lst (zos_nil) rfl)) (by decide))
    (zb_cons (zs_for PassesOwn.never (by rfl) (zi_range2 (by rfl) hx.n_range (ze_sub hu (zo_slot (pv 1)) (zo_val (ze_int))) (ze_add (zo_val (ze_sub hu (zo_slot (pv 1)) (zo_val (ze_int)))) (zo_val (ze_sub hu (zo_slot (pv 0)) (zo_val (ze_int)))))) (zg_name (pg_name sc_covered.nd rfl (by first | exact Or.inl rfl | exact Or.inr rfl)) (by decide)) (zb_one (zs_expr (ze_extend (pe_pl0 (pv 2)) (ze_lc (by rfl) sc_covered.nd (zi_range2 (by rfl) hx.n_range (ze_sub hu (zo_slot (pv 1)) (zo_val (ze_int))) (ze_add (zo_val (ze_sub hu (zo_slot (pv 1)) (zo_val (ze_int)))) (zo_val (ze_sub hu (zo_slot (pv 0)) (zo_val (ze_int)))))) (blkOk_by (N := N_covered) (sc := defScope s_covered) (own := [("y", 4)]) (by decide +kernel)) rfl (fun _ _ _ _ _ => zg_name (pg_name sc_covered.nd rfl (by first | exact Or.inl rfl | exact Or.inr rfl)) (by decide)) (fun _ _ _ _ _ => pts_nil) (fun _ _ _ _ _ => ze_tup (zos_cons (zo_val (ze_var (pv 3))) (zos_cons (zo_val (ze_var (pv 4))) (zos_nil))) rfl)) (Or.inl rfl)))))
    (zb_one (zs_ret (ze_move (pv 2)))))
theorem cal_covered {P : Program} {w : World} {K : PySem.W.Frag} {mg : Str → Option Value} {base : Heap} (hx : Fx w K mg) : Cal ⟨P, w, K, mg⟩ base CX0 1 "covered" P_covered f_covered := by
  unfold f_covered
  obtain ⟨f, fd, F, hm⟩ := hx.m_covered
  exact ⟨f, fd, fn_okD F sc_covered (dv_covered hx), hm, F.kp, F.bindsN fun _ _ _ _ _ _ us hl => match us, hl with | [_, _], _ => rfl⟩
/-! picture_of -/
abbrev N_picture_of : List Str := ["hall", "stand", "signs", "found", "y", "wide", "high", "walls", "kinds", "n", "place", "cell", "x"]
abbrev P_picture_of : List Str := ["hall", "stand"]
abbrev kp_picture_of : List Nat := [0, 1]
theorem sc_picture_of : FnScope N_picture_of P_picture_of (defScope s_picture_of) := ⟨rfl, rfl, rfl, by decide +kernel, rfl, by decide +kernel, by decide +kernel⟩
@[irreducible] def t_picture_of_0 : SF :=
  zRet (eMove 3)
theorem u_picture_of_0 {ρ : Z.Env} {Q : Fl → Z.Env → Prop} : wp (t_picture_of_0) ρ Q ↔ wp (zRet (eMove 3)) ρ Q := by
  unfold t_picture_of_0
  exact Iff.rfl
@[irreducible] def t_picture_of_1 : SF :=
  zSeq (zFor (zRngD (zOps gSub [.p 6, .v (eC (.at (.int 1)))]) (zOps gNeg [.v (eC (.at (.int 1)))])) (tgN 4) (zEx (zMut "list" 3 [] uAppend [zMet isStrD gJoin (eC (.at (.str ("" : Str)))) [.v (zLc 13 (zRng1 (eVar 5)) (tgN 12) none (zMet isDnD gGetN (eVar 2) [.v (zNew .tup [eVar 12, eVar 4]), .v (eC (D.at (.str ("." : Str))))]) [12])]])))
  (t_picture_of_0)
theorem u_picture_of_1 {ρ : Z.Env} {Q : Fl → Z.Env → Prop} : wp (t_picture_of_1) ρ Q ↔ wp (zSeq (zFor (zRngD (zOps gSub [.p 6, .v (eC (.at (.int 1)))]) (zOps gNeg [.v (eC (.at (.int 1)))])) (tgN 4) (zEx (zMut "list" 3 [] uAppend [zMet isStrD gJoin (eC (.at (.str ("" : Str)))) [.v (zLc 13 (zRng1 (eVar 5)) (tgN 12) none (zMet isDnD gGetN (eVar 2) [.v (zNew .tup [eVar 12, eVar 4]), .v (eC (D.at (.str ("." : Str))))]) [12])]])))
  (t_picture_of_0)) ρ Q := by
  unfold t_picture_of_1
  exact Iff.rfl
@[irreducible] def t_picture_of_2 : SF :=
  zSeq (zSet (tgN 3) (zNew (.lst true) []))
  (t_picture_of_1)
theorem u_picture_of_2 {ρ : Z.Env} {Q : Fl → Z.Env → Prop} : wp (t_picture_of_2) ρ Q ↔ wp (zSeq (zSet (tgN 3) (zNew (.lst true) []))
  (t_picture_of_1)) ρ Q := by
  unfold t_picture_of_2
  exact Iff.rfl
@[irreducible] def t_picture_of_3 : SF :=
  zSeq (zFor (zEnum (eVar 1)) (tgT [tgN 9, tgN 10]) (zFor (zListI (zCall f_covered [.v (zOps gIx [.p 8, .p 9]), .p 10])) (tgN 11) (zSet (tgSub 2 [] (eVar 11) uSet) (zOps gIx [.v (eC (D.at (.str ("abcdefghijkl" : Str)))), .p 9]))))
  (t_picture_of_2)
theorem u_picture_of_3 {ρ : Z.Env} {Q : Fl → Z.Env → Prop} : wp (t_picture_of_3) ρ Q ↔ wp (zSeq (zFor (zEnum (eVar 1)) (tgT [tgN 9, tgN 10]) (zFor (zListI (zCall f_covered [.v (zOps gIx [.p 8, .p 9]), .p 10])) (tgN 11) (zSet (tgSub 2 [] (eVar 11) uSet) (zOps gIx [.v (eC (D.at (.str ("abcdefghijkl" : Str)))), .p 9]))))
  (t_picture_of_2)) ρ Q := by
  unfold t_picture_of_3
  exact Iff.rfl
@[irreducible] def t_picture_of_4 : SF :=
  zSeq (zSet (tgN 2) (zOps (one1 gDictN) [.v (zLc 13 (zTupI (eVar 7)) (tgN 11) none (zNew .tup [eVar 11, eC (D.at (.str ("#" : Str)))]) [11])]))
  (t_picture_of_3)
theorem u_picture_of_4 {ρ : Z.Env} {Q : Fl → Z.Env → Prop} : wp (t_picture_of_4) ρ Q ↔ wp (zSeq (zSet (tgN 2) (zOps (one1 gDictN) [.v (zLc 13 (zTupI (eVar 7)) (tgN 11) none (zNew .tup [eVar 11, eC (D.at (.str ("#" : Str)))]) [11])]))
  (t_picture_of_3)) ρ Q := by
  unfold t_picture_of_4
  exact Iff.rfl
@[irreducible] def b_picture_of : SF :=
  zSeq (zSet (tgT [tgN 5, tgN 6, tgN 7, tgN 8]) (eVar 0))
  (t_picture_of_4)
@[irreducible] def f_picture_of : Fn := fnOf0 13 kp_picture_of b_picture_of
theorem sat_picture_of {ds : List D} {Q : D → Z.Env → Prop} : sat f_picture_of ds Q ↔ wp b_picture_of (fnEnv 13 ds) (fin (bkO kp_picture_of 0 ds.length) Q) := by
  unfold f_picture_of
  exact sat_fn
theorem nx_picture_of (ds : List D) (e : EX) (bk : Z.Env) : f_picture_of ds ≠ some (.exc e bk) := by
  unfold f_picture_of
  exact fnOf0_nox ds e bk
theorem dv_picture_of {P : Program} {w : World} {K : PySem.W.Frag} {mg : Str → Option Value} {base : Heap} {f : Addr} (hx : Fx w K mg) (C_covered : Cal ⟨P, w, K, mg⟩ base CX0 1 "covered" P_covered f_covered) (cdv : Value) (A : Around) (outer : List PySem.Env) (s : Shared) (H : Hp) (E : XK) (hr : Room 1 (A.deeper (envOfC "picture_of" (defScope s_picture_of) s.heap.objs.size f cdv))) :
    ZB (cxOf CX0 P w K mg base N_picture_of "picture_of" (defScope s_picture_of) f cdv A outer s H E).nox W0 kp_picture_of (defBody s_picture_of) b_picture_of := by
  have hu := hu_64 hr
  have hu1 := hu_100 hr
  unfold b_picture_of t_picture_of_4 t_picture_of_3 t_picture_of_2 t_picture_of_1 t_picture_of_0
  exact
  zb_cons (zs_tgt (ze_var (pv 0)) (zg_tup (by rfl) (zgs_cons (zg_name (pg_name sc_picture_of.nd rfl (by first | exact Or.inl rfl | exact Or.inr rfl)) (by decide)) (zgs_cons (zg_name (pg_name sc_picture_of.nd rfl (by first | exact Or.inl rfl | exact Or.inr rfl)) (by decide)) (zgs_cons (zg_name (pg_name sc_picture_of.nd rfl (by first | exact Or.inl rfl | exact Or.inr rfl)) (by decide)) (zgs_cons (zg_name (pg_name sc_picture_of.nd rfl (by first | exact Or.inl rfl | exact Or.inr rfl)) (by decide)) (zgs_nil)))))))
    (zb_cons (zs_set (ps_set sc_picture_of.nd rfl (by first | exact Or.inl rfl | exact Or.inr rfl) (ze_dictN (by rfl) hu (by rfl) hx.n_dict (zo_val (ze_lc (by rfl) sc_picture_of.nd (zi_tup (ze_var (pv 7))) (blkOk_by (N := N_picture_of) (sc := defScope s_picture_of) (own := [("cell", 11)]) (by decide +kernel)) rfl (fun _ _ _ _ _ => zg_name (pg_name sc_picture_of.nd rfl (by first | exact Or.inl rfl | exact Or.inr rfl)) (by decide)) (fun _ _ _ _ _ => pts_nil) (fun _ _ _ _ _ => ze_tup (zos_cons (zo_val (ze_var (pv 11))) (zos_cons (zo_val (ze_glo (by rfl) hx.g_WALL)) (zos_nil))) rfl))))) (by decide))
    (zb_cons (zs_for PassesOwn.never (by rfl) (zi_enum (by rfl) (by rfl) hx.n_enumerate (ze_var (pv 1))) (zg_tup (by rfl) (zgs_cons (zg_name (pg_name sc_picture_of.nd rfl (by first | exact Or.inl rfl | exact Or.inr rfl)) (by decide)) (zgs_cons (zg_name (pg_name sc_picture_of.nd rfl (by first | exact Or.inl rfl | exact Or.inr rfl)) (by decide)) (zgs_nil)))) (zb_one (zs_for PassesOwn.never (by rfl) (zi_list (ze_call C_covered (hr.mono (by decide)) (by rfl) (zos_cons (zo_val (ze_sub hu (zo_slot (pv 8)) (zo_slot (pv 9)))) (zos_cons (zo_slot (pv 10)) (zos_nil))) rfl nx_covered)) (zg_name (pg_name sc_picture_of.nd rfl (by first | exact Or.inl rfl | exact Or.inr rfl)) (by decide)) (zb_one (zs_tgt (ze_sub hu (zo_val (ze_glo (by rfl) hx.g_LETTERS)) (zo_slot (pv 9))) (zg_set (W := W0) hu (pe_pl0 (pv 2)) (ze_var (pv 11)) (Or.inl rfl)))))))
    (zb_cons (zs_set (ps_set sc_picture_of.nd rfl (by first | exact Or.inl rfl | exact Or.inr rfl) (ze_lst (zos_nil) rfl)) (by decide))
    (zb_cons (zs_for PassesOwn.never (by rfl) (zi_rangeD (by rfl) hx.n_range (ze_minus (zo_slot (pv 6)) (zo_val (ze_int))) (ze_neg (zo_val (ze_int)))) (zg_name (pg_name sc_picture_of.nd rfl (by first | exact Or.inl rfl | exact Or.inr rfl)) (by decide)) (zb_one (zs_expr (ze_append (pe_pl0 (pv 3)) (ze_join (ze_str) (zo_val (ze_lc (by rfl) sc_picture_of.nd (zi_range1 (by rfl) hx.n_range (ze_var (pv 5))) (blkOk_by (N := N_picture_of) (sc := defScope s_picture_of) (own := [("x", 12)]) (by decide +kernel)) rfl (fun _ _ _ _ _ => zg_name (pg_name sc_picture_of.nd rfl (by first | exact Or.inl rfl | exact Or.inr rfl)) (by decide)) (fun _ _ _ _ _ => pts_nil) (fun _ _ _ _ _ => ze_getN2 hu (ze_var (pv 2)) (zo_val (ze_tup (zos_cons (zo_val (ze_var (pv 12))) (zos_cons (zo_val (ze_var (pv 4))) (zos_nil))) rfl)) (zo_val (ze_glo (by rfl) hx.g_FREE)))))) (Or.inl rfl)))))
    (zb_one (zs_ret (ze_move (pv 3))))))))
theorem cal_picture_of {P : Program} {w : World} {K : PySem.W.Frag} {mg : Str → Option Value} {base : Heap} (hx : Fx w K mg) : Cal ⟨P, w, K, mg⟩ base CX0 2 "picture_of" P_picture_of f_picture_of := by
  unfold f_picture_of
  obtain ⟨f, fd, F, hm⟩ := hx.m_picture_of
  exact ⟨f, fd, fn_okD F sc_picture_of (dv_picture_of hx (cal_covered hx)), hm, F.kp, F.bindsN fun _ _ _ _ _ _ us hl => match us, hl with | [_, _], _ => rfl⟩
/-! way_row -/
abbrev N_way_row : List Str := ["n", "kind"]
abbrev P_way_row : List Str := ["n", "kind"]
abbrev kp_way_row : List Nat := [0, 1]
theorem sc_way_row : FnScope N_way_row P_way_row (defScope s_way_row) := ⟨rfl, rfl, rfl, by decide +kernel, rfl, by decide +kernel, by decide +kernel⟩
@[irreducible] def b_way_row : SF :=
  zRet (zOps gAdd [.v (zOps gAdd [.v (zOps gAdd [.v (zOps gIx [.v (eC (D.at (.str ("abcdefghijkl" : Str)))), .p 0]), .v (eC (.at (.str (" " : Str))))]), .v (zOps gIx [.p 1, .v (eC (.at (.int 2)))])]), .v (zOps gIx [.v (eC (c_STRENGTHS)), .v (zOps gIx [.p 1, .v (eC (.at (.int 3)))])])])
@[irreducible] def f_way_row : Fn := fnOf0 2 kp_way_row b_way_row
theorem sat_way_row {ds : List D} {Q : D → Z.Env → Prop} : sat f_way_row ds Q ↔ wp b_way_row (fnEnv 2 ds) (fin (bkO kp_way_row 0 ds.length) Q) := by
  unfold f_way_row
  exact sat_fn
theorem nx_way_row (ds : List D) (e : EX) (bk : Z.Env) : f_way_row ds ≠ some (.exc e bk) := by
  unfold f_way_row
  exact fnOf0_nox ds e bk
theorem dv_way_row {P : Program} {w : World} {K : PySem.W.Frag} {mg : Str → Option Value} {base : Heap} {f : Addr} (hx : Fx w K mg) (cdv : Value) (A : Around) (outer : List PySem.Env) (s : Shared) (H : Hp) (E : XK) (hr : Room 0 (A.deeper (envOfC "way_row" (defScope s_way_row) s.heap.objs.size f cdv))) :
    ZB (cxOf CX0 P w K mg base N_way_row "way_row" (defScope s_way_row) f cdv A outer s H E).nox W0 kp_way_row (defBody s_way_row) b_way_row := by
  have hu := hu_64 hr
  have hu1 := hu_100 hr
  unfold b_way_row
  exact
  zb_one (zs_ret (ze_add (zo_val (ze_add (zo_val (ze_add (zo_val (ze_sub hu (zo_val (ze_glo (by rfl) hx.g_LETTERS)) (zo_slot (pv 0)))) (zo_val (ze_str)))) (zo_val (ze_sub hu (zo_slot (pv 1)) (zo_val (ze_int)))))) (zo_val (ze_sub hu (zo_val (ze_glo (by rfl) hx.g_STRENGTHS)) (zo_val (ze_sub hu (zo_slot (pv 1)) (zo_val (ze_int))))))))
theorem cal_way_row {P : Program} {w : World} {K : PySem.W.Frag} {mg : Str → Option Value} {base : Heap} (hx : Fx w K mg) : Cal ⟨P, w, K, mg⟩ base CX0 1 "way_row" P_way_row f_way_row := by
  unfold f_way_row
  obtain ⟨f, fd, F, hm⟩ := hx.m_way_row
  exact ⟨f, fd, fn_okD F sc_way_row (dv_way_row hx), hm, F.kp, F.bindsN fun _ _ _ _ _ _ us hl => match us, hl with | [_, _], _ => rfl⟩
/-! hall_text -/
abbrev N_hall_text : List Str := ["hall", "stand", "n", "kind"]
abbrev P_hall_text : List Str := ["hall", "stand"]
abbrev kp_hall_text : List Nat := [0, 1]
theorem sc_hall_text : FnScope N_hall_text P_hall_text (defScope s_hall_text) := ⟨rfl, rfl, rfl, by decide +kernel, rfl, by decide +kernel, by decide +kernel⟩
@[irreducible] def b_hall_text : SF :=
  zRet (zMet isStrD gJoin (eC (.at (.str ("\n" : Str)))) [.v (zOps gAdd [.v (zOps gAdd [.v (zNew (.lst true) [eC (D.at (.str ("hall" : Str)))]), .v (zCall f_picture_of [.p 0, .p 1])]), .v (zLc 4 (zEnum (zOps gIx [.p 0, .v (eC (.at (.int 3)))])) (tgT [tgN 2, tgN 3]) none (zCall f_way_row [.p 2, .p 3]) [2, 3])])])
@[irreducible] def f_hall_text : Fn := fnOf0 4 kp_hall_text b_hall_text
theorem sat_hall_text {ds : List D} {Q : D → Z.Env → Prop} : sat f_hall_text ds Q ↔ wp b_hall_text (fnEnv 4 ds) (fin (bkO kp_hall_text 0 ds.length) Q) := by
  unfold f_hall_text
  exact sat_fn
theorem nx_hall_text (ds : List D) (e : EX) (bk : Z.Env) : f_hall_text ds ≠ some (.exc e bk) := by
  unfold f_hall_text
  exact fnOf0_nox ds e bk
theorem dv_hall_text {P : Program} {w : World} {K : PySem.W.Frag} {mg : Str → Option Value} {base : Heap} {f : Addr} (hx : Fx w K mg) (C_picture_of : Cal ⟨P, w, K, mg⟩ base CX0 2 "picture_of" P_picture_of f_picture_of) (C_way_row : Cal ⟨P, w, K, mg⟩ base CX0 1 "way_row" P_way_row f_way_row) (cdv : Value) (A : Around) (outer : List PySem.Env) (s : Shared) (H : Hp) (E : XK) (hr : Room 2 (A.deeper (envOfC "hall_text" (defScope s_hall_text) s.heap.objs.size f cdv))) :
    ZB (cxOf CX0 P w K mg base N_hall_text "hall_text" (defScope s_hall_text) f cdv A outer s H E).nox W0 kp_hall_text (defBody s_hall_text) b_hall_text := by
  have hu := hu_64 hr
  have hu1 := hu_100 hr
  unfold b_hall_text
  exact
  zb_one (zs_ret (ze_join (ze_str) (zo_val (ze_add (zo_val (ze_add (zo_val (ze_lst (zos_cons (zo_val (ze_glo (by rfl) hx.g_HEAD)) (zos_nil)) rfl)) (zo_val (ze_call C_picture_of (hr.mono (by decide)) (by rfl) (zos_cons (zo_slot (pv 0)) (zos_cons (zo_slot (pv 1)) (zos_nil))) rfl nx_picture_of)))) (zo_val (ze_lc (by rfl) sc_hall_text.nd (zi_enum (by rfl) (by rfl) hx.n_enumerate (ze_sub hu (zo_slot (pv 0)) (zo_val (ze_int)))) (blkOk_by (N := N_hall_text) (sc := defScope s_hall_text) (own := [("n", 2), ("kind", 3)]) (by decide +kernel)) rfl (fun _ _ _ _ _ => zg_tup (by rfl) (zgs_cons (zg_name (pg_name sc_hall_text.nd rfl (by first | exact Or.inl rfl | exact Or.inr rfl)) (by decide)) (zgs_cons (zg_name (pg_name sc_hall_text.nd rfl (by first | exact Or.inl rfl | exact Or.inr rfl)) (by decide)) (zgs_nil)))) (fun _ _ _ _ _ => pts_nil) (fun _ _ _ _ _ => ze_call C_way_row (hr.mono (by decide)) (by rfl) (zos_cons (zo_slot (pv 2)) (zos_cons (zo_slot (pv 3)) (zos_nil))) rfl nx_way_row)))))))
theorem cal_hall_text {P : Program} {w : World} {K : PySem.W.Frag} {mg : Str → Option Value} {base : Heap} (hx : Fx w K mg) : Cal ⟨P, w, K, mg⟩ base CX0 3 "hall_text" P_hall_text f_hall_text := by
  unfold f_hall_text
  obtain ⟨f, fd, F, hm⟩ := hx.m_hall_text
  exact ⟨f, fd, fn_okD F sc_hall_text (dv_hall_text hx (cal_picture_of hx) (cal_way_row hx)), hm, F.kp, F.bindsN fun _ _ _ _ _ _ us hl => match us, hl with | [_, _], _ => rfl⟩
/-! _law_begin -/
abbrev N__law_begin : List Str := ["_law_script", "_law_cells"]
abbrev P__law_begin : List Str := ["_law_script"]
abbrev kp__law_begin : List Nat := [0]
theorem sc__law_begin : FnScope N__law_begin P__law_begin (defScope s__law_begin) := ⟨rfl, rfl, rfl, by decide +kernel, rfl, by decide +kernel, by decide +kernel⟩
@[irreducible] def t__law_begin_0 : SF :=
  zRet (zDisp [("cells" : Str), ("turn" : Str)] [eMove 1, eC (.at (.int 0))])
theorem u__law_begin_0 {ρ : Z.Env} {Q : Fl → Z.Env → Prop} : wp (t__law_begin_0) ρ Q ↔ wp (zRet (zDisp [("cells" : Str), ("turn" : Str)] [eMove 1, eC (.at (.int 0))])) ρ Q := by
  unfold t__law_begin_0
  exact Iff.rfl
@[irreducible] def t__law_begin_1 : SF :=
  zSeq (zIfS (evB (zOps gEq [.p 1, .v (zNew (.lst true) [])])) (zSet (tgN 1) (zNew (.lst true) [eC (.at (.int 7))])) (zNx))
  (t__law_begin_0)
theorem u__law_begin_1 {ρ : Z.Env} {Q : Fl → Z.Env → Prop} : wp (t__law_begin_1) ρ Q ↔ wp (zSeq (zIfS (evB (zOps gEq [.p 1, .v (zNew (.lst true) [])])) (zSet (tgN 1) (zNew (.lst true) [eC (.at (.int 7))])) (zNx))
  (t__law_begin_0)) ρ Q := by
  unfold t__law_begin_1
  exact Iff.rfl
@[irreducible] def b__law_begin : SF :=
  zSeq (zSet (tgN 1) (zOps (one1 gListOf) [.v (zSl (.p 0) none (some (eC (.at (.int 63)))))]))
  (t__law_begin_1)
@[irreducible] def f__law_begin : Fn := fnOf0 2 kp__law_begin b__law_begin
theorem sat__law_begin {ds : List D} {Q : D → Z.Env → Prop} : sat f__law_begin ds Q ↔ wp b__law_begin (fnEnv 2 ds) (fin (bkO kp__law_begin 0 ds.length) Q) := by
  unfold f__law_begin
  exact sat_fn
theorem nx__law_begin (ds : List D) (e : EX) (bk : Z.Env) : f__law_begin ds ≠ some (.exc e bk) := by
  unfold f__law_begin
  exact fnOf0_nox ds e bk
theorem dv__law_begin {P : Program} {w : World} {K : PySem.W.Frag} {mg : Str → Option Value} {base : Heap} {f : Addr} (hx : Fx w K mg) (cdv : Value) (A : Around) (outer : List PySem.Env) (s : Shared) (H : Hp) (E : XK) (hr : Room 0 (A.deeper (envOfC "_law_begin" (defScope s__law_begin) s.heap.objs.size f cdv))) :
    ZB (cxOf CX0 P w K mg base N__law_begin "_law_begin" (defScope s__law_begin) f cdv A outer s H E).nox W0 kp__law_begin (defBody s__law_begin) b__law_begin := by
  have hu := hu_64 hr
  have hu1 := hu_100 hr
  unfold b__law_begin t__law_begin_1 t__law_begin_0
  exact
  zb_cons (zs_set (ps_set sc__law_begin.nd rfl (by first | exact Or.inl rfl | exact Or.inr rfl) (ze_listOf (by rfl) hx.n_list (zo_val (ze_sl (zo_slot (pv 0)) (zp_none) (zp_some (ze_int)))))) (by decide))
    (zb_cons (zs_if (zt_eq hu (zo_slot (pv 1)) (zo_val (ze_lst (zos_nil) rfl))) (zb_one (zs_set (ps_set sc__law_begin.nd rfl (by first | exact Or.inl rfl | exact Or.inr rfl) (ze_lst (zos_cons (zo_val (ze_int)) (zos_nil)) rfl)) (by decide))) (zb_nil))
    (zb_one (zs_ret (ze_disp (zp_cons (ze_move (pv 1)) (zp_cons (ze_int) (zp_nil))) rfl rfl (by decide +kernel) (by decide) rfl rfl (by simp) (by decide)))))
theorem cal__law_begin {P : Program} {w : World} {K : PySem.W.Frag} {mg : Str → Option Value} {base : Heap} (hx : Fx w K mg) : Cal ⟨P, w, K, mg⟩ base CX0 1 "_law_begin" P__law_begin f__law_begin := by
  unfold f__law_begin
  obtain ⟨f, fd, F, hm⟩ := hx.m__law_begin
  exact ⟨f, fd, fn_okD F sc__law_begin (dv__law_begin hx), hm, F.kp, F.bindsN fun _ _ _ _ _ _ us hl => match us, hl with | [_], _ => rfl⟩
/-! _law_take -/
abbrev N__law_take : List Str := ["_law_state", "_law_many", "_law_turn", "_law_place", "_law_cell", "_law_mixed", "_law_digit"]
abbrev P__law_take : List Str := ["_law_state", "_law_many"]
abbrev kp__law_take : List Nat := [0, 1]
theorem sc__law_take : FnScope N__law_take P__law_take (defScope s__law_take) := ⟨rfl, rfl, rfl, by decide +kernel, rfl, by decide +kernel, by decide +kernel⟩
@[irreducible] def t__law_take_0 : SF :=
  zRet (eMove 6)
theorem u__law_take_0 {ρ : Z.Env} {Q : Fl → Z.Env → Prop} : wp (t__law_take_0) ρ Q ↔ wp (zRet (eMove 6)) ρ Q := by
  unfold t__law_take_0
  exact Iff.rfl
@[irreducible] def t__law_take_1 : SF :=
  zRet (zOps gMod [.v (zOps gDiv [.v (zOps gMod [.v (zOps gMul [.v (zOps gAdd [.p 5, .v (zOps gMul [.p 2, .v (eC (.at (.int 104729)))])]), .v (eC (.at (.int 39373)))]), .v (eC (.at (.int 2147483629)))]), .v (eC (.at (.int 64)))]), .p 1])
theorem u__law_take_1 {ρ : Z.Env} {Q : Fl → Z.Env → Prop} : wp (t__law_take_1) ρ Q ↔ wp (zRet (zOps gMod [.v (zOps gDiv [.v (zOps gMod [.v (zOps gMul [.v (zOps gAdd [.p 5, .v (zOps gMul [.p 2, .v (eC (.at (.int 104729)))])]), .v (eC (.at (.int 39373)))]), .v (eC (.at (.int 2147483629)))]), .v (eC (.at (.int 64)))]), .p 1])) ρ Q := by
  unfold t__law_take_1
  exact Iff.rfl
@[irreducible] def t__law_take_2 : SF :=
  zSeq (zSet (tgN 5) (zOps gMod [.v (zOps gMul [.p 5, .p 5]), .v (eC (.at (.int 2147483587)))]))
  (t__law_take_1)
theorem u__law_take_2 {ρ : Z.Env} {Q : Fl → Z.Env → Prop} : wp (t__law_take_2) ρ Q ↔ wp (zSeq (zSet (tgN 5) (zOps gMod [.v (zOps gMul [.p 5, .p 5]), .v (eC (.at (.int 2147483587)))]))
  (t__law_take_1)) ρ Q := by
  unfold t__law_take_2
  exact Iff.rfl
@[irreducible] def t__law_take_3 : SF :=
  zSeq (zSet (tgN 5) (zOps gMod [.v (zOps gMul [.v (zOps gAdd [.v (zOps gAdd [.v (zOps gMod [.p 4, .v (eC (.at (.int 2147483629)))]), .v (zOps gMul [.v (zOps gMul [.p 2, .p 2]), .v (eC (.at (.int 7919)))])]), .v (eC (.at (.int 11)))]), .v (eC (.at (.int 48271)))]), .v (eC (.at (.int 2147483647)))]))
  (t__law_take_2)
theorem u__law_take_3 {ρ : Z.Env} {Q : Fl → Z.Env → Prop} : wp (t__law_take_3) ρ Q ↔ wp (zSeq (zSet (tgN 5) (zOps gMod [.v (zOps gMul [.v (zOps gAdd [.v (zOps gAdd [.v (zOps gMod [.p 4, .v (eC (.at (.int 2147483629)))]), .v (zOps gMul [.v (zOps gMul [.p 2, .p 2]), .v (eC (.at (.int 7919)))])]), .v (eC (.at (.int 11)))]), .v (eC (.at (.int 48271)))]), .v (eC (.at (.int 2147483647)))]))
  (t__law_take_2)) ρ Q := by
  unfold t__law_take_3
  exact Iff.rfl
@[irreducible] def t__law_take_4 : SF :=
  zSeq (zIfS (evB (zOps gGe [.p 4, .v (zOps gPow [.v (eC (.at (.int 10))), .v (eC (.at (.int 18)))])])) (zSeq (zSet (tgT [tgSub 0 [.key ("cells" : Str)] (eVar 3) uSet, tgN 6]) (zOps gDivmod [.p 4, .p 1]))
  (t__law_take_0)) (zNx))
  (t__law_take_3)
theorem u__law_take_4 {ρ : Z.Env} {Q : Fl → Z.Env → Prop} : wp (t__law_take_4) ρ Q ↔ wp (zSeq (zIfS (evB (zOps gGe [.p 4, .v (zOps gPow [.v (eC (.at (.int 10))), .v (eC (.at (.int 18)))])])) (zSeq (zSet (tgT [tgSub 0 [.key ("cells" : Str)] (eVar 3) uSet, tgN 6]) (zOps gDivmod [.p 4, .p 1]))
  (t__law_take_0)) (zNx))
  (t__law_take_3)) ρ Q := by
  unfold t__law_take_4
  exact Iff.rfl
@[irreducible] def t__law_take_5 : SF :=
  zSeq (zSet (tgN 4) (zPlIx 0 [.key ("cells" : Str)] (eVar 3)))
  (t__law_take_4)
theorem u__law_take_5 {ρ : Z.Env} {Q : Fl → Z.Env → Prop} : wp (t__law_take_5) ρ Q ↔ wp (zSeq (zSet (tgN 4) (zPlIx 0 [.key ("cells" : Str)] (eVar 3)))
  (t__law_take_4)) ρ Q := by
  unfold t__law_take_5
  exact Iff.rfl
@[irreducible] def t__law_take_6 : SF :=
  zSeq (zSet (tgN 3) (zOps gMod [.p 2, .v (zPl1 (fun d => gLen [d]) 0 [.key ("cells" : Str)])]))
  (t__law_take_5)
theorem u__law_take_6 {ρ : Z.Env} {Q : Fl → Z.Env → Prop} : wp (t__law_take_6) ρ Q ↔ wp (zSeq (zSet (tgN 3) (zOps gMod [.p 2, .v (zPl1 (fun d => gLen [d]) 0 [.key ("cells" : Str)])]))
  (t__law_take_5)) ρ Q := by
  unfold t__law_take_6
  exact Iff.rfl
@[irreducible] def t__law_take_7 : SF :=
  zSeq (zSet (tgSub 0 [] (eC (.at (.str ("turn" : Str)))) uSet) (eVar 2))
  (t__law_take_6)
theorem u__law_take_7 {ρ : Z.Env} {Q : Fl → Z.Env → Prop} : wp (t__law_take_7) ρ Q ↔ wp (zSeq (zSet (tgSub 0 [] (eC (.at (.str ("turn" : Str)))) uSet) (eVar 2))
  (t__law_take_6)) ρ Q := by
  unfold t__law_take_7
  exact Iff.rfl
@[irreducible] def b__law_take : SF :=
  zSeq (zSet (tgN 2) (zOps gAdd [.v (zOps gIx [.p 0, .v (eC (.at (.str ("turn" : Str))))]), .v (eC (.at (.int 1)))]))
  (t__law_take_7)
@[irreducible] def f__law_take : Fn := fnOf0 7 kp__law_take b__law_take
theorem sat__law_take {ds : List D} {Q : D → Z.Env → Prop} : sat f__law_take ds Q ↔ wp b__law_take (fnEnv 7 ds) (fin (bkO kp__law_take 0 ds.length) Q) := by
  unfold f__law_take
  exact sat_fn
theorem nx__law_take (ds : List D) (e : EX) (bk : Z.Env) : f__law_take ds ≠ some (.exc e bk) := by
  unfold f__law_take
  exact fnOf0_nox ds e bk
theorem dv__law_take {P : Program} {w : World} {K : PySem.W.Frag} {mg : Str → Option Value} {base : Heap} {f : Addr} (hx : Fx w K mg) (cdv : Value) (A : Around) (outer : List PySem.Env) (s : Shared) (H : Hp) (E : XK) (hr : Room 0 (A.deeper (envOfC "_law_take" (defScope s__law_take) s.heap.objs.size f cdv))) :
    ZB (cxOf CX0 P w K mg base N__law_take "_law_take" (defScope s__law_take) f cdv A outer s H E).nox W0 kp__law_take (defBody s__law_take) b__law_take := by
  have hu := hu_64 hr
  have hu1 := hu_100 hr
  unfold b__law_take t__law_take_7 t__law_take_6 t__law_take_5 t__law_take_4 t__law_take_3 t__law_take_2 t__law_take_1 t__law_take_0
  exact
  zb_cons (zs_set (ps_set sc__law_take.nd rfl (by first | exact Or.inl rfl | exact Or.inr rfl) (ze_add (zo_val (ze_sub hu (zo_slot (pv 0)) (zo_val (ze_str)))) (zo_val (ze_int)))) (by decide))
    (zb_cons (zs_tgt (ze_var (pv 2)) (zg_set (W := W0) hu (pe_pl0 (pv 0)) (ze_str) (Or.inl rfl)))
    (zb_cons (zs_set (ps_set sc__law_take.nd rfl (by first | exact Or.inl rfl | exact Or.inr rfl) (ze_mod (zo_slot (pv 2)) (zo_val (ze_plLen (by rfl) hx.n_len (pe_plK hu (pe_pl0 (pv 0))))))) (by decide))
    (zb_cons (zs_set (ps_set sc__law_take.nd rfl (by first | exact Or.inl rfl | exact Or.inr rfl) (ze_plIx hu (pe_plK hu (pe_pl0 (pv 0))) (ze_var (pv 3)))) (by decide))
    (zb_cons (zs_if (zt_ge  (zo_slot (pv 4)) (zo_val (ze_pow (zo_val (ze_int)) (zo_val (ze_int))))) (zb_cons (zs_tgt (ze_divmod (by rfl) hx.n_divmod (zo_slot (pv 4)) (zo_slot (pv 1))) (zg_tup (by rfl) (zgs_cons (zg_set (W := W0) hu (pe_plK hu (pe_pl0 (pv 0))) (ze_var (pv 3)) (Or.inr rfl)) (zgs_cons (zg_name (pg_name sc__law_take.nd rfl (by first | exact Or.inl rfl | exact Or.inr rfl)) (by decide)) (zgs_nil)))))
    (zb_one (zs_ret (ze_move (pv 6))))) (zb_nil))
    (zb_cons (zs_set (ps_set sc__law_take.nd rfl (by first | exact Or.inl rfl | exact Or.inr rfl) (ze_mod (zo_val (ze_mul (zo_val (ze_add (zo_val (ze_add (zo_val (ze_mod (zo_slot (pv 4)) (zo_val (ze_int)))) (zo_val (ze_mul (zo_val (ze_mul (zo_slot (pv 2)) (zo_slot (pv 2)))) (zo_val (ze_int)))))) (zo_val (ze_int)))) (zo_val (ze_int)))) (zo_val (ze_int)))) (by decide))
    (zb_cons (zs_set (ps_set sc__law_take.nd rfl (by first | exact Or.inl rfl | exact Or.inr rfl) (ze_mod (zo_val (ze_mul (zo_slot (pv 5)) (zo_slot (pv 5)))) (zo_val (ze_int)))) (by decide))
    (zb_one (zs_ret (ze_mod (zo_val (ze_fdiv (zo_val (ze_mod (zo_val (ze_mul (zo_val (ze_add (zo_slot (pv 5)) (zo_val (ze_mul (zo_slot (pv 2)) (zo_val (ze_int)))))) (zo_val (ze_int)))) (zo_val (ze_int)))) (zo_val (ze_int)))) (zo_slot (pv 1)))))))))))
theorem cal__law_take {P : Program} {w : World} {K : PySem.W.Frag} {mg : Str → Option Value} {base : Heap} (hx : Fx w K mg) : Cal ⟨P, w, K, mg⟩ base CX0 1 "_law_take" P__law_take f__law_take := by
  unfold f__law_take
  obtain ⟨f, fd, F, hm⟩ := hx.m__law_take
  exact ⟨f, fd, fn_okD F sc__law_take (dv__law_take hx), hm, F.kp, F.bindsN fun _ _ _ _ _ _ us hl => match us, hl with | [_, _], _ => rfl⟩
/-! _law_same -/
abbrev N__law_same : List Str := ["_law_found", "_law_due", "_law_name", "_law_one", "_law_other"]
abbrev P__law_same : List Str := ["_law_found", "_law_due"]
abbrev kp__law_same : List Nat := [0, 1]
theorem sc__law_same : FnScope N__law_same P__law_same (defScope s__law_same) := ⟨rfl, rfl, rfl, by decide +kernel, rfl, by decide +kernel, by decide +kernel⟩
@[irreducible] def t__law_same_0 (φ : Fn) : SF :=
  zRet (zOps (one1 gAll) [.v (zLc 5 (zListI (eVar 1)) (tgN 2) none (zAnd (zOps gIn [.p 2, .p 0]) (zCall φ [.v (zOps gIx [.p 0, .p 2]), .v (zOps gIx [.p 1, .p 2])])) [2])])
theorem u__law_same_0 {φ : Fn} {ρ : Z.Env} {Q : Fl → Z.Env → Prop} : wp (t__law_same_0 φ) ρ Q ↔ wp (zRet (zOps (one1 gAll) [.v (zLc 5 (zListI (eVar 1)) (tgN 2) none (zAnd (zOps gIn [.p 2, .p 0]) (zCall φ [.v (zOps gIx [.p 0, .p 2]), .v (zOps gIx [.p 1, .p 2])])) [2])])) ρ Q := by
  unfold t__law_same_0
  exact Iff.rfl
@[irreducible] def t__law_same_1 (φ : Fn) : SF :=
  zRet (zOps (one1 gAll) [.v (zLc 5 (zZip (eVar 0) (eVar 1)) (tgT [tgN 3, tgN 4]) none (zCall φ [.p 3, .p 4]) [3, 4])])
theorem u__law_same_1 {φ : Fn} {ρ : Z.Env} {Q : Fl → Z.Env → Prop} : wp (t__law_same_1 φ) ρ Q ↔ wp (zRet (zOps (one1 gAll) [.v (zLc 5 (zZip (eVar 0) (eVar 1)) (tgT [tgN 3, tgN 4]) none (zCall φ [.p 3, .p 4]) [3, 4])])) ρ Q := by
  unfold t__law_same_1
  exact Iff.rfl
@[irreducible] def t__law_same_2 (φ : Fn) : SF :=
  zSeq (zIfS (tOrF (evB (zOps gNe [.v (zOps (one1 (gIsi "tuple")) [.p 0]), .v (zOps (one1 (gIsi "tuple")) [.p 1])])) (evB (zOps gNe [.v (zOps gLen [.p 0]), .v (zOps gLen [.p 1])]))) (zRet (eC (.at (.bl false)))) (zNx))
  ((t__law_same_1 φ))
theorem u__law_same_2 {φ : Fn} {ρ : Z.Env} {Q : Fl → Z.Env → Prop} : wp (t__law_same_2 φ) ρ Q ↔ wp (zSeq (zIfS (tOrF (evB (zOps gNe [.v (zOps (one1 (gIsi "tuple")) [.p 0]), .v (zOps (one1 (gIsi "tuple")) [.p 1])])) (evB (zOps gNe [.v (zOps gLen [.p 0]), .v (zOps gLen [.p 1])]))) (zRet (eC (.at (.bl false)))) (zNx))
  ((t__law_same_1 φ))) ρ Q := by
  unfold t__law_same_2
  exact Iff.rfl
@[irreducible] def t__law_same_3 (φ : Fn) : SF :=
  zRet (zAnd (zOps (one1 (gIsi "int")) [.p 0]) (zAnd (zNot (zOps (one1 (gIsi "bool")) [.p 0])) (zOps gEq [.p 0, .p 1])))
theorem u__law_same_3 {φ : Fn} {ρ : Z.Env} {Q : Fl → Z.Env → Prop} : wp (t__law_same_3 φ) ρ Q ↔ wp (zRet (zAnd (zOps (one1 (gIsi "int")) [.p 0]) (zAnd (zNot (zOps (one1 (gIsi "bool")) [.p 0])) (zOps gEq [.p 0, .p 1])))) ρ Q := by
  unfold t__law_same_3
  exact Iff.rfl
@[irreducible] def t__law_same_4 (φ : Fn) : SF :=
  zSeq (zIfS (evB (zOps (one1 (gIsi "str")) [.p 1])) (zRet (zAnd (zOps (one1 (gIsi "str")) [.p 0]) (zOps gEq [.p 0, .p 1]))) (zNx))
  ((t__law_same_3 φ))
theorem u__law_same_4 {φ : Fn} {ρ : Z.Env} {Q : Fl → Z.Env → Prop} : wp (t__law_same_4 φ) ρ Q ↔ wp (zSeq (zIfS (evB (zOps (one1 (gIsi "str")) [.p 1])) (zRet (zAnd (zOps (one1 (gIsi "str")) [.p 0]) (zOps gEq [.p 0, .p 1]))) (zNx))
  ((t__law_same_3 φ))) ρ Q := by
  unfold t__law_same_4
  exact Iff.rfl
@[irreducible] def t__law_same_5 (φ : Fn) : SF :=
  zSeq (zIfS (tOrF (evB (zOps (one1 (gIsi "list")) [.p 1])) (evB (zOps (one1 (gIsi "tuple")) [.p 1]))) (zSeq (zIfS (evB (zOps gNe [.v (zOps (one1 (gIsi "list")) [.p 0]), .v (zOps (one1 (gIsi "list")) [.p 1])])) (zRet (eC (.at (.bl false)))) (zNx))
  ((t__law_same_2 φ))) (zNx))
  ((t__law_same_4 φ))
theorem u__law_same_5 {φ : Fn} {ρ : Z.Env} {Q : Fl → Z.Env → Prop} : wp (t__law_same_5 φ) ρ Q ↔ wp (zSeq (zIfS (tOrF (evB (zOps (one1 (gIsi "list")) [.p 1])) (evB (zOps (one1 (gIsi "tuple")) [.p 1]))) (zSeq (zIfS (evB (zOps gNe [.v (zOps (one1 (gIsi "list")) [.p 0]), .v (zOps (one1 (gIsi "list")) [.p 1])])) (zRet (eC (.at (.bl false)))) (zNx))
  ((t__law_same_2 φ))) (zNx))
  ((t__law_same_4 φ))) ρ Q := by
  unfold t__law_same_5
  exact Iff.rfl
@[irreducible] def t__law_same_6 (φ : Fn) : SF :=
  zSeq (zIfS (evB (zOps (one1 (gIsi "dict")) [.p 1])) (zSeq (zIfS (tOrF (tNotF (evB (zOps (one1 (gIsi "dict")) [.p 0]))) (evB (zOps gNe [.v (zOps gLen [.p 0]), .v (zOps gLen [.p 1])]))) (zRet (eC (.at (.bl false)))) (zNx))
  ((t__law_same_0 φ))) (zNx))
  ((t__law_same_5 φ))
theorem u__law_same_6 {φ : Fn} {ρ : Z.Env} {Q : Fl → Z.Env → Prop} : wp (t__law_same_6 φ) ρ Q ↔ wp (zSeq (zIfS (evB (zOps (one1 (gIsi "dict")) [.p 1])) (zSeq (zIfS (tOrF (tNotF (evB (zOps (one1 (gIsi "dict")) [.p 0]))) (evB (zOps gNe [.v (zOps gLen [.p 0]), .v (zOps gLen [.p 1])]))) (zRet (eC (.at (.bl false)))) (zNx))
  ((t__law_same_0 φ))) (zNx))
  ((t__law_same_5 φ))) ρ Q := by
  unfold t__law_same_6
  exact Iff.rfl
@[irreducible] def b__law_same (φ : Fn) : SF :=
  zSeq (zIfS (evB (zOps gIsN [.p 1, .v (eC (.at .non))])) (zRet (zOps gIsN [.p 0, .v (eC (.at .non))])) (zNx))
  ((t__law_same_6 φ))
def fr__law_same : Nat → Fn
  | 0 => fun _ => none
  | n + 1 => fnOf0 5 kp__law_same (b__law_same (fr__law_same n))
@[irreducible] def f__law_same (n : Nat) : Fn := fr__law_same n
theorem f0__law_same : f__law_same 0 = fun _ => none := by
  unfold f__law_same
  rfl
theorem fs__law_same {n : Nat} : f__law_same (n + 1) = fnOf0 5 kp__law_same (b__law_same (f__law_same n)) := by
  unfold f__law_same
  rfl
theorem sat__law_same {n : Nat} {ds : List D} {Q : D → Z.Env → Prop} : sat (f__law_same (n + 1)) ds Q ↔ wp (b__law_same (f__law_same n)) (fnEnv 5 ds) (fin (bkO kp__law_same 0 ds.length) Q) := by
  rw [fs__law_same]
  exact sat_fn
theorem nx__law_same : ∀ (n : Nat) (ds : List D) (e : EX) (bk : Z.Env), f__law_same n ds ≠ some (.exc e bk)
  | 0, _, _, _, h => by
    rw [f0__law_same] at h
    exact nomatch h
  | _ + 1, ds, e, bk, h => by
    rw [fs__law_same] at h
    exact fnOf0_nox ds e bk h
theorem dv__law_same {P : Program} {w : World} {K : PySem.W.Frag} {mg : Str → Option Value} {base : Heap} {f : Addr} {lv : Nat} (hx : Fx w K mg) (C__law_same : Cal ⟨P, w, K, mg⟩ base CX0 (1 + lv) "_law_same" P__law_same (f__law_same lv)) (cdv : Value) (A : Around) (outer : List PySem.Env) (s : Shared) (H : Hp) (E : XK) (hr : Room (1 + lv) (A.deeper (envOfC "_law_same" (defScope s__law_same) s.heap.objs.size f cdv))) :
    ZB (cxOf CX0 P w K mg base N__law_same "_law_same" (defScope s__law_same) f cdv A outer s H E).nox W0 kp__law_same (defBody s__law_same) (b__law_same (f__law_same lv)) := by
  have hu := hu_64 hr
  have hu1 := hu_100 hr
  unfold b__law_same t__law_same_6 t__law_same_5 t__law_same_4 t__law_same_3 t__law_same_2 t__law_same_1 t__law_same_0
  exact
  zb_cons (zs_if (zt_is  (zo_slot (pv 1)) (zo_val (ze_non))) (zb_one (zs_ret (ze_is  (zo_slot (pv 0)) (zo_val (ze_non))))) (zb_nil))
    (zb_cons (zs_if (zt_val (ze_isi (by rfl) hx.n_isinstance (zo_slot (pv 1)) (by rfl) hx.n_dict (by rfl))) (zb_cons (zs_if (zt_w (zw_or (zt_not (zt_val (ze_isi (by rfl) hx.n_isinstance (zo_slot (pv 0)) (by rfl) hx.n_dict (by rfl)))) (zw_or1 (zt_ne hu (zo_val (ze_len (by rfl) hx.n_len (zo_slot (pv 0)))) (zo_val (ze_len (by rfl) hx.n_len (zo_slot (pv 1)))))))) (zb_one (zs_ret (ze_bl))) (zb_nil))
    (zb_one (zs_ret (ze_all (by rfl) (by rfl) hx.n_all (zo_val (ze_lc (by rfl) sc__law_same.nd (zi_list (ze_var (pv 1))) (blkOk_by (N := N__law_same) (sc := defScope s__law_same) (own := [("_law_name", 2)]) (by decide +kernel)) rfl (fun _ _ _ _ _ => zg_name (pg_name sc__law_same.nd rfl (by first | exact Or.inl rfl | exact Or.inr rfl)) (by decide)) (fun _ _ _ _ _ => pts_nil) (fun _ _ _ _ _ => ze_and (ze_in hu1 (zo_slot (pv 2)) (zo_slot (pv 0)) (by first | rfl | exact nomark _)) (ze_one (ze_call C__law_same hr (by rfl) (zos_cons (zo_val (ze_sub hu (zo_slot (pv 0)) (zo_slot (pv 2)))) (zos_cons (zo_val (ze_sub hu (zo_slot (pv 1)) (zo_slot (pv 2)))) (zos_nil))) rfl (nx__law_same lv)))))))))) (zb_nil))
    (zb_cons (zs_if (zt_w (zw_or (zt_val (ze_isi (by rfl) hx.n_isinstance (zo_slot (pv 1)) (by rfl) hx.n_list (by rfl))) (zw_or1 (zt_val (ze_isi (by rfl) hx.n_isinstance (zo_slot (pv 1)) (by rfl) hx.n_tuple (by rfl)))))) (zb_cons (zs_if (zt_ne hu (zo_val (ze_isi (by rfl) hx.n_isinstance (zo_slot (pv 0)) (by rfl) hx.n_list (by rfl))) (zo_val (ze_isi (by rfl) hx.n_isinstance (zo_slot (pv 1)) (by rfl) hx.n_list (by rfl)))) (zb_one (zs_ret (ze_bl))) (zb_nil))
    (zb_cons (zs_if (zt_w (zw_or (zt_ne hu (zo_val (ze_isi (by rfl) hx.n_isinstance (zo_slot (pv 0)) (by rfl) hx.n_tuple (by rfl))) (zo_val (ze_isi (by rfl) hx.n_isinstance (zo_slot (pv 1)) (by rfl) hx.n_tuple (by rfl)))) (zw_or1 (zt_ne hu (zo_val (ze_len (by rfl) hx.n_len (zo_slot (pv 0)))) (zo_val (ze_len (by rfl) hx.n_len (zo_slot (pv 1)))))))) (zb_one (zs_ret (ze_bl))) (zb_nil))
    (zb_one (zs_ret (ze_all (by rfl) (by rfl) hx.n_all (zo_val (ze_lc (by rfl) sc__law_same.nd (zi_zip (by rfl) hx.n_zip (ze_var (pv 0)) (ze_var (pv 1))) (blkOk_by (N := N__law_same) (sc := defScope s__law_same) (own := [("_law_one", 3), ("_law_other", 4)]) (by decide +kernel)) rfl (fun _ _ _ _ _ => zg_tup (by rfl) (zgs_cons (zg_name (pg_name sc__law_same.nd rfl (by first | exact Or.inl rfl | exact Or.inr rfl)) (by decide)) (zgs_cons (zg_name (pg_name sc__law_same.nd rfl (by first | exact Or.inl rfl | exact Or.inr rfl)) (by decide)) (zgs_nil)))) (fun _ _ _ _ _ => pts_nil) (fun _ _ _ _ _ => ze_call C__law_same hr (by rfl) (zos_cons (zo_slot (pv 3)) (zos_cons (zo_slot (pv 4)) (zos_nil))) rfl (nx__law_same lv))))))))) (zb_nil))
    (zb_cons (zs_if (zt_val (ze_isi (by rfl) hx.n_isinstance (zo_slot (pv 1)) (by rfl) hx.n_str (by rfl))) (zb_one (zs_ret (ze_and (ze_isi (by rfl) hx.n_isinstance (zo_slot (pv 0)) (by rfl) hx.n_str (by rfl)) (ze_one (ze_eq hu (zo_slot (pv 0)) (zo_slot (pv 1))))))) (zb_nil))
    (zb_one (zs_ret (ze_and (ze_isi (by rfl) hx.n_isinstance (zo_slot (pv 0)) (by rfl) hx.n_int (by rfl)) (ze_and (ze_not (ze_isi (by rfl) hx.n_isinstance (zo_slot (pv 0)) (by rfl) hx.n_bool (by rfl))) (ze_one (ze_eq hu (zo_slot (pv 0)) (zo_slot (pv 1)))))))))))
theorem cal__law_same {P : Program} {w : World} {K : PySem.W.Frag} {mg : Str → Option Value} {base : Heap} (hx : Fx w K mg) : ∀ lv, Cal ⟨P, w, K, mg⟩ base CX0 (1 + lv) "_law_same" P__law_same (f__law_same lv)
  | 0 => by
    rw [f0__law_same]
    obtain ⟨f, fd, F, hm⟩ := hx.m__law_same
    exact ⟨f, fd, fn_none (k := 0) F sc__law_same, hm, F.kp, F.bindsN fun _ _ _ _ _ _ us hl => match us, hl with | [_, _], _ => rfl⟩
  | lv + 1 => by
    rw [fs__law_same]
    obtain ⟨f, fd, F, hm⟩ := hx.m__law_same
    have ih := cal__law_same (P := P) (w := w) (base := base) hx lv
    exact ⟨f, fd, fn_okD (k := 1 + lv) F sc__law_same (dv__law_same hx ih), hm, F.kp, F.bindsN fun _ _ _ _ _ _ us hl => match us, hl with | [_, _], _ => rfl⟩
/-! _law_covered -/
abbrev N__law_covered : List Str := ["_law_kind_here", "_law_place", "_law_found", "_law_i", "_law_j"]
abbrev P__law_covered : List Str := ["_law_kind_here", "_law_place"]
abbrev kp__law_covered : List Nat := [0, 1]
theorem sc__law_covered : FnScope N__law_covered P__law_covered (defScope s__law_covered) := ⟨rfl, rfl, rfl, by decide +kernel, rfl, by decide +kernel, by decide +kernel⟩
@[irreducible] def t__law_covered_0 : SF :=
  zRet (eMove 2)
theorem u__law_covered_0 {ρ : Z.Env} {Q : Fl → Z.Env → Prop} : wp (t__law_covered_0) ρ Q ↔ wp (zRet (eMove 2)) ρ Q := by
  unfold t__law_covered_0
  exact Iff.rfl
@[irreducible] def t__law_covered_1 : SF :=
  zSeq (zFor (zRng1 (zOps gIx [.p 0, .v (eC (.at (.int 0)))])) (tgN 3) (zEx (zMut "list" 2 [] uExtend [zLc 5 (zRng1 (zOps gIx [.p 0, .v (eC (.at (.int 1)))])) (tgN 4) none (zNew .tup [zOps gAdd [.v (zOps gIx [.p 1, .v (eC (.at (.int 0)))]), .p 3], zOps gAdd [.v (zOps gIx [.p 1, .v (eC (.at (.int 1)))]), .p 4]]) [4]])))
  (t__law_covered_0)
theorem u__law_covered_1 {ρ : Z.Env} {Q : Fl → Z.Env → Prop} : wp (t__law_covered_1) ρ Q ↔ wp (zSeq (zFor (zRng1 (zOps gIx [.p 0, .v (eC (.at (.int 0)))])) (tgN 3) (zEx (zMut "list" 2 [] uExtend [zLc 5 (zRng1 (zOps gIx [.p 0, .v (eC (.at (.int 1)))])) (tgN 4) none (zNew .tup [zOps gAdd [.v (zOps gIx [.p 1, .v (eC (.at (.int 0)))]), .p 3], zOps gAdd [.v (zOps gIx [.p 1, .v (eC (.at (.int 1)))]), .p 4]]) [4]])))
  (t__law_covered_0)) ρ Q := by
  unfold t__law_covered_1
  exact Iff.rfl
@[irreducible] def b__law_covered : SF :=
  zSeq (zSet (tgN 2) (zNew (.lst true) []))
  (t__law_covered_1)
@[irreducible] def f__law_covered : Fn := fnOf0 5 kp__law_covered b__law_covered
theorem sat__law_covered {ds : List D} {Q : D → Z.Env → Prop} : sat f__law_covered ds Q ↔ wp b__law_covered (fnEnv 5 ds) (fin (bkO kp__law_covered 0 ds.length) Q) := by
  unfold f__law_covered
  exact sat_fn
theorem nx__law_covered (ds : List D) (e : EX) (bk : Z.Env) : f__law_covered ds ≠ some (.exc e bk) := by
  unfold f__law_covered
  exact fnOf0_nox ds e bk
theorem dv__law_covered {P : Program} {w : World} {K : PySem.W.Frag} {mg : Str → Option Value} {base : Heap} {f : Addr} (hx : Fx w K mg) (cdv : Value) (A : Around) (outer : List PySem.Env) (s : Shared) (H : Hp) (E : XK) (hr : Room 0 (A.deeper (envOfC "_law_covered" (defScope s__law_covered) s.heap.objs.size f cdv))) :
    ZB (cxOf CX0 P w K mg base N__law_covered "_law_covered" (defScope s__law_covered) f cdv A outer s H E).nox W0 kp__law_covered (defBody s__law_covered) b__law_covered := by
  have hu := hu_64 hr
  have hu1 := hu_100 hr
  unfold b__law_covered t__law_covered_1 t__law_covered_0
  exact
  zb_cons (zs_set (ps_set sc__law_covered.nd rfl (by first | exact Or.inl rfl | exact Or.inr rfl) (ze_lst (zos_nil) rfl)) (by decide))
    (zb_cons (zs_for PassesOwn.never (by rfl) (zi_range1 (by rfl) hx.n_range (ze_sub hu (zo_slot (pv 0)) (zo_val (ze_int)))) (zg_name (pg_name sc__law_covered.nd rfl (by first | exact Or.inl rfl | exact Or.inr rfl)) (by decide)) (zb_one (zs_expr (ze_extend (pe_pl0 (pv 2)) (ze_lc (by rfl) sc__law_covered.nd (zi_range1 (by rfl) hx.n_range (ze_sub hu (zo_slot (pv 0)) (zo_val (ze_int)))) (blkOk_by (N := N__law_covered) (sc := defScope s__law_covered) (own := [("_law_j", 4)]) (by decide +kernel)) rfl (fun _ _ _ _ _ => zg_name (pg_name sc__law_covered.nd rfl (by first | exact Or.inl rfl | exact Or.inr rfl)) (by decide)) (fun _ _ _ _ _ => pts_nil) (fun _ _ _ _ _ => ze_tup (zos_cons (zo_val (ze_add (zo_val (ze_sub hu (zo_slot (pv 1)) (zo_val (ze_int)))) (zo_slot (pv 3)))) (zos_cons (zo_val (ze_add (zo_val (ze_sub hu (zo_slot (pv 1)) (zo_val (ze_int)))) (zo_slot (pv 4)))) (zos_nil))) rfl)) (Or.inl rfl)))))
    (zb_one (zs_ret (ze_move (pv 2)))))
theorem cal__law_covered {P : Program} {w : World} {K : PySem.W.Frag} {mg : Str → Option Value} {base : Heap} (hx : Fx w K mg) : Cal ⟨P, w, K, mg⟩ base CX0 1 "_law_covered" P__law_covered f__law_covered := by
  unfold f__law_covered
  obtain ⟨f, fd, F, hm⟩ := hx.m__law_covered
  exact ⟨f, fd, fn_okD F sc__law_covered (dv__law_covered hx), hm, F.kp, F.bindsN fun _ _ _ _ _ _ us hl => match us, hl with | [_, _], _ => rfl⟩
/-! _law_room_of -/
abbrev N__law_room_of : List Str := ["_law_wide", "_law_high", "_law_kind_here", "_law_across", "_law_up"]
abbrev P__law_room_of : List Str := ["_law_wide", "_law_high", "_law_kind_here"]
abbrev kp__law_room_of : List Nat := [0, 1, 2]
theorem sc__law_room_of : FnScope N__law_room_of P__law_room_of (defScope s__law_room_of) := ⟨rfl, rfl, rfl, by decide +kernel, rfl, by decide +kernel, by decide +kernel⟩
@[irreducible] def t__law_room_of_0 : SF :=
  zRet (zOps gIx [.v (zDisp [("any" : Str), ("row" : Str), ("column" : Str), ("none" : Str)] [zOps gMul [.p 3, .p 4], eVar 3, eVar 4, eC (.at (.int 1))]), .v (zOps gIx [.p 2, .v (eC (.at (.int 2)))])])
theorem u__law_room_of_0 {ρ : Z.Env} {Q : Fl → Z.Env → Prop} : wp (t__law_room_of_0) ρ Q ↔ wp (zRet (zOps gIx [.v (zDisp [("any" : Str), ("row" : Str), ("column" : Str), ("none" : Str)] [zOps gMul [.p 3, .p 4], eVar 3, eVar 4, eC (.at (.int 1))]), .v (zOps gIx [.p 2, .v (eC (.at (.int 2)))])])) ρ Q := by
  unfold t__law_room_of_0
  exact Iff.rfl
@[irreducible] def b__law_room_of : SF :=
  zSeq (zPar [3, 4] [zOps gAdd [.v (zOps gSub [.p 0, .v (zOps gIx [.p 2, .v (eC (.at (.int 0)))])]), .v (eC (.at (.int 1)))], zOps gAdd [.v (zOps gSub [.p 1, .v (zOps gIx [.p 2, .v (eC (.at (.int 1)))])]), .v (eC (.at (.int 1)))]])
  (t__law_room_of_0)
@[irreducible] def f__law_room_of : Fn := fnOf0 5 kp__law_room_of b__law_room_of
theorem sat__law_room_of {ds : List D} {Q : D → Z.Env → Prop} : sat f__law_room_of ds Q ↔ wp b__law_room_of (fnEnv 5 ds) (fin (bkO kp__law_room_of 0 ds.length) Q) := by
  unfold f__law_room_of
  exact sat_fn
theorem nx__law_room_of (ds : List D) (e : EX) (bk : Z.Env) : f__law_room_of ds ≠ some (.exc e bk) := by
  unfold f__law_room_of
  exact fnOf0_nox ds e bk
theorem dv__law_room_of {P : Program} {w : World} {K : PySem.W.Frag} {mg : Str → Option Value} {base : Heap} {f : Addr} (hx : Fx w K mg) (cdv : Value) (A : Around) (outer : List PySem.Env) (s : Shared) (H : Hp) (E : XK) (hr : Room 0 (A.deeper (envOfC "_law_room_of" (defScope s__law_room_of) s.heap.objs.size f cdv))) :
    ZB (cxOf CX0 P w K mg base N__law_room_of "_law_room_of" (defScope s__law_room_of) f cdv A outer s H E).nox W0 kp__law_room_of (defBody s__law_room_of) b__law_room_of := by
  have hu := hu_64 hr
  have hu1 := hu_100 hr
  unfold b__law_room_of t__law_room_of_0
  exact
  zb_cons (zs_par (ps_par rfl sc__law_room_of.nd rfl rfl (by decide) rfl rfl (zos_cons (zo_val (ze_add (zo_val (ze_minus (zo_slot (pv 0)) (zo_val (ze_sub hu (zo_slot (pv 2)) (zo_val (ze_int)))))) (zo_val (ze_int)))) (zos_cons (zo_val (ze_add (zo_val (ze_minus (zo_slot (pv 1)) (zo_val (ze_sub hu (zo_slot (pv 2)) (zo_val (ze_int)))))) (zo_val (ze_int)))) (zos_nil))) rfl))
    (zb_one (zs_ret (ze_sub hu (zo_val (ze_disp (zp_cons (ze_mul (zo_slot (pv 3)) (zo_slot (pv 4))) (zp_cons (ze_var (pv 3)) (zp_cons (ze_var (pv 4)) (zp_cons (ze_int) (zp_nil))))) rfl rfl (by decide +kernel) (by decide) rfl rfl (by simp) (by decide))) (zo_val (ze_sub hu (zo_slot (pv 2)) (zo_val (ze_int)))))))
theorem cal__law_room_of {P : Program} {w : World} {K : PySem.W.Frag} {mg : Str → Option Value} {base : Heap} (hx : Fx w K mg) : Cal ⟨P, w, K, mg⟩ base CX0 1 "_law_room_of" P__law_room_of f__law_room_of := by
  unfold f__law_room_of
  obtain ⟨f, fd, F, hm⟩ := hx.m__law_room_of
  exact ⟨f, fd, fn_okD F sc__law_room_of (dv__law_room_of hx), hm, F.kp, F.bindsN fun _ _ _ _ _ _ us hl => match us, hl with | [_, _, _], _ => rfl⟩
/-! _law_sized -/
abbrev N__law_sized : List Str := ["_law_state", "_law_broad", "_law_way"]
abbrev P__law_sized : List Str := ["_law_state", "_law_broad"]
abbrev kp__law_sized : List Nat := [0, 1]
theorem sc__law_sized : FnScope N__law_sized P__law_sized (defScope s__law_sized) := ⟨rfl, rfl, rfl, by decide +kernel, rfl, by decide +kernel, by decide +kernel⟩
@[irreducible] def t__law_sized_0 : SF :=
  zRet (zNew .tup [zOps gAdd [.v (eC (.at (.int 3))), .v (zCall f__law_take [.p 0, .v (eC (.at (.int 2)))])], zOps gAdd [.v (eC (.at (.int 2))), .v (zCall f__law_take [.p 0, .v (eC (.at (.int 3)))])]])
theorem u__law_sized_0 {ρ : Z.Env} {Q : Fl → Z.Env → Prop} : wp (t__law_sized_0) ρ Q ↔ wp (zRet (zNew .tup [zOps gAdd [.v (eC (.at (.int 3))), .v (zCall f__law_take [.p 0, .v (eC (.at (.int 2)))])], zOps gAdd [.v (eC (.at (.int 2))), .v (zCall f__law_take [.p 0, .v (eC (.at (.int 3)))])]])) ρ Q := by
  unfold t__law_sized_0
  exact Iff.rfl
@[irreducible] def t__law_sized_1 : SF :=
  zSeq (zIfS (evB (zOps gEq [.p 2, .v (eC (.at (.int 1)))])) (zRet (zNew .tup [zOps gAdd [.v (eC (.at (.int 1))), .v (zCall f__law_take [.p 0, .v (eC (.at (.int 3)))])], zOps gAdd [.v (eC (.at (.int 1))), .v (zCall f__law_take [.p 0, .v (eC (.at (.int 3)))])]])) (zNx))
  (t__law_sized_0)
theorem u__law_sized_1 {ρ : Z.Env} {Q : Fl → Z.Env → Prop} : wp (t__law_sized_1) ρ Q ↔ wp (zSeq (zIfS (evB (zOps gEq [.p 2, .v (eC (.at (.int 1)))])) (zRet (zNew .tup [zOps gAdd [.v (eC (.at (.int 1))), .v (zCall f__law_take [.p 0, .v (eC (.at (.int 3)))])], zOps gAdd [.v (eC (.at (.int 1))), .v (zCall f__law_take [.p 0, .v (eC (.at (.int 3)))])]])) (zNx))
  (t__law_sized_0)) ρ Q := by
  unfold t__law_sized_1
  exact Iff.rfl
@[irreducible] def t__law_sized_2 : SF :=
  zSeq (zIfS (evB (zOps gEq [.p 2, .v (eC (.at (.int 0)))])) (zRet (zNew .tup [zOps gAdd [.v (eC (.at (.int 1))), .v (zCall f__law_take [.p 0, .v (eC (.at (.int 9)))])], zOps gAdd [.v (eC (.at (.int 1))), .v (zCall f__law_take [.p 0, .v (eC (.at (.int 2)))])]])) (zNx))
  (t__law_sized_1)
theorem u__law_sized_2 {ρ : Z.Env} {Q : Fl → Z.Env → Prop} : wp (t__law_sized_2) ρ Q ↔ wp (zSeq (zIfS (evB (zOps gEq [.p 2, .v (eC (.at (.int 0)))])) (zRet (zNew .tup [zOps gAdd [.v (eC (.at (.int 1))), .v (zCall f__law_take [.p 0, .v (eC (.at (.int 9)))])], zOps gAdd [.v (eC (.at (.int 1))), .v (zCall f__law_take [.p 0, .v (eC (.at (.int 2)))])]])) (zNx))
  (t__law_sized_1)) ρ Q := by
  unfold t__law_sized_2
  exact Iff.rfl
@[irreducible] def t__law_sized_3 : SF :=
  zSeq (zSet (tgN 2) (zCall f__law_take [.p 0, .v (eC (.at (.int 6)))]))
  (t__law_sized_2)
theorem u__law_sized_3 {ρ : Z.Env} {Q : Fl → Z.Env → Prop} : wp (t__law_sized_3) ρ Q ↔ wp (zSeq (zSet (tgN 2) (zCall f__law_take [.p 0, .v (eC (.at (.int 6)))]))
  (t__law_sized_2)) ρ Q := by
  unfold t__law_sized_3
  exact Iff.rfl
@[irreducible] def b__law_sized : SF :=
  zSeq (zIfS (evB (eVar 1)) (zRet (zNew .tup [zOps gAdd [.v (eC (.at (.int 5))), .v (zCall f__law_take [.p 0, .v (eC (.at (.int 5)))])], zOps gAdd [.v (eC (.at (.int 4))), .v (zCall f__law_take [.p 0, .v (eC (.at (.int 6)))])]])) (zNx))
  (t__law_sized_3)
@[irreducible] def f__law_sized : Fn := fnOf0 3 kp__law_sized b__law_sized
theorem sat__law_sized {ds : List D} {Q : D → Z.Env → Prop} : sat f__law_sized ds Q ↔ wp b__law_sized (fnEnv 3 ds) (fin (bkO kp__law_sized 0 ds.length) Q) := by
  unfold f__law_sized
  exact sat_fn
theorem nx__law_sized (ds : List D) (e : EX) (bk : Z.Env) : f__law_sized ds ≠ some (.exc e bk) := by
  unfold f__law_sized
  exact fnOf0_nox ds e bk
theorem dv__law_sized {P : Program} {w : World} {K : PySem.W.Frag} {mg : Str → Option Value} {base : Heap} {f : Addr} (hx : Fx w K mg) (C__law_take : Cal ⟨P, w, K, mg⟩ base CX0 1 "_law_take" P__law_take f__law_take) (cdv : Value) (A : Around) (outer : List PySem.Env) (s : Shared) (H : Hp) (E : XK) (hr : Room 1 (A.deeper (envOfC "_law_sized" (defScope s__law_sized) s.heap.objs.size f cdv))) :
    ZB (cxOf CX0 P w K mg base N__law_sized "_law_sized" (defScope s__law_sized) f cdv A outer s H E).nox W0 kp__law_sized (defBody s__law_sized) b__law_sized := by
  have hu := hu_64 hr
  have hu1 := hu_100 hr
  unfold b__law_sized t__law_sized_3 t__law_sized_2 t__law_sized_1 t__law_sized_0
  exact
  zb_cons (zs_if (zt_val (ze_var (pv 1))) (zb_one (zs_ret (ze_tup (zos_cons (zo_val (ze_add (zo_val (ze_int)) (zo_val (ze_call C__law_take (hr.mono (by decide)) (by rfl) (zos_cons (zo_slot (pv 0)) (zos_cons (zo_val (ze_int)) (zos_nil))) rfl nx__law_take)))) (zos_cons (zo_val (ze_add (zo_val (ze_int)) (zo_val (ze_call C__law_take (hr.mono (by decide)) (by rfl) (zos_cons (zo_slot (pv 0)) (zos_cons (zo_val (ze_int)) (zos_nil))) rfl nx__law_take)))) (zos_nil))) rfl))) (zb_nil))
    (zb_cons (zs_set (ps_set sc__law_sized.nd rfl (by first | exact Or.inl rfl | exact Or.inr rfl) (ze_call C__law_take (hr.mono (by decide)) (by rfl) (zos_cons (zo_slot (pv 0)) (zos_cons (zo_val (ze_int)) (zos_nil))) rfl nx__law_take)) (by decide))
    (zb_cons (zs_if (zt_eq hu (zo_slot (pv 2)) (zo_val (ze_int))) (zb_one (zs_ret (ze_tup (zos_cons (zo_val (ze_add (zo_val (ze_int)) (zo_val (ze_call C__law_take (hr.mono (by decide)) (by rfl) (zos_cons (zo_slot (pv 0)) (zos_cons (zo_val (ze_int)) (zos_nil))) rfl nx__law_take)))) (zos_cons (zo_val (ze_add (zo_val (ze_int)) (zo_val (ze_call C__law_take (hr.mono (by decide)) (by rfl) (zos_cons (zo_slot (pv 0)) (zos_cons (zo_val (ze_int)) (zos_nil))) rfl nx__law_take)))) (zos_nil))) rfl))) (zb_nil))
    (zb_cons (zs_if (zt_eq hu (zo_slot (pv 2)) (zo_val (ze_int))) (zb_one (zs_ret (ze_tup (zos_cons (zo_val (ze_add (zo_val (ze_int)) (zo_val (ze_call C__law_take (hr.mono (by decide)) (by rfl) (zos_cons (zo_slot (pv 0)) (zos_cons (zo_val (ze_int)) (zos_nil))) rfl nx__law_take)))) (zos_cons (zo_val (ze_add (zo_val (ze_int)) (zo_val (ze_call C__law_take (hr.mono (by decide)) (by rfl) (zos_cons (zo_slot (pv 0)) (zos_cons (zo_val (ze_int)) (zos_nil))) rfl nx__law_take)))) (zos_nil))) rfl))) (zb_nil))
    (zb_one (zs_ret (ze_tup (zos_cons (zo_val (ze_add (zo_val (ze_int)) (zo_val (ze_call C__law_take (hr.mono (by decide)) (by rfl) (zos_cons (zo_slot (pv 0)) (zos_cons (zo_val (ze_int)) (zos_nil))) rfl nx__law_take)))) (zos_cons (zo_val (ze_add (zo_val (ze_int)) (zo_val (ze_call C__law_take (hr.mono (by decide)) (by rfl) (zos_cons (zo_slot (pv 0)) (zos_cons (zo_val (ze_int)) (zos_nil))) rfl nx__law_take)))) (zos_nil))) rfl))))))
theorem cal__law_sized {P : Program} {w : World} {K : PySem.W.Frag} {mg : Str → Option Value} {base : Heap} (hx : Fx w K mg) : Cal ⟨P, w, K, mg⟩ base CX0 2 "_law_sized" P__law_sized f__law_sized := by
  unfold f__law_sized
  obtain ⟨f, fd, F, hm⟩ := hx.m__law_sized
  exact ⟨f, fd, fn_okD F sc__law_sized (dv__law_sized hx (cal__law_take hx)), hm, F.kp, F.bindsN fun _ _ _ _ _ _ us hl => match us, hl with | [_, _], _ => rfl⟩
/-! _law_kind -/
abbrev N__law_kind : List Str := ["_law_state", "_law_wide", "_law_high", "_law_broad", "_law_sizes", "_law_ways", "_law_great", "_law_across", "_law_up"]
abbrev P__law_kind : List Str := ["_law_state", "_law_wide", "_law_high", "_law_broad"]
abbrev kp__law_kind : List Nat := [0, 1, 2, 3]
theorem sc__law_kind : FnScope N__law_kind P__law_kind (defScope s__law_kind) := ⟨rfl, rfl, rfl, by decide +kernel, rfl, by decide +kernel, by decide +kernel⟩
@[irreducible] def t__law_kind_0 : SF :=
  zIfS (evB (zOps gEq [.p 5, .v (eC (.at (.str ("column" : Str))))])) (zPar [7, 8] [eC (.at (.int 1)), zOps gSub [.p 2, .v (zCall f__law_take [.p 0, .v (eC (.at (.int 3)))])]]) (zNx)
theorem u__law_kind_0 {ρ : Z.Env} {Q : Fl → Z.Env → Prop} : wp (t__law_kind_0) ρ Q ↔ wp (zIfS (evB (zOps gEq [.p 5, .v (eC (.at (.str ("column" : Str))))])) (zPar [7, 8] [eC (.at (.int 1)), zOps gSub [.p 2, .v (zCall f__law_take [.p 0, .v (eC (.at (.int 3)))])]]) (zNx)) ρ Q := by
  unfold t__law_kind_0
  exact Iff.rfl
@[irreducible] def t__law_kind_1 : SF :=
  zSeq (zIfS (evB (zOps gEq [.p 5, .v (eC (.at (.str ("row" : Str))))])) (zPar [7, 8] [zOps gSub [.p 1, .v (zCall f__law_take [.p 0, .v (eC (.at (.int 3)))])], eC (.at (.int 1))]) (zNx))
  (t__law_kind_0)
theorem u__law_kind_1 {ρ : Z.Env} {Q : Fl → Z.Env → Prop} : wp (t__law_kind_1) ρ Q ↔ wp (zSeq (zIfS (evB (zOps gEq [.p 5, .v (eC (.at (.str ("row" : Str))))])) (zPar [7, 8] [zOps gSub [.p 1, .v (zCall f__law_take [.p 0, .v (eC (.at (.int 3)))])], eC (.at (.int 1))]) (zNx))
  (t__law_kind_0)) ρ Q := by
  unfold t__law_kind_1
  exact Iff.rfl
@[irreducible] def t__law_kind_2 : SF :=
  zRet (zNew .tup [eVar 7, eVar 8, eVar 5, zOps gIx [.v (zNew (.lst true) [eC (.at (.int 0)), eC (.at (.int 0)), eC (.at (.int 1)), eC (.at (.int 1)), eC (.at (.int 1)), zOps gNeg [.v (eC (.at (.int 1)))]]), .v (zCall f__law_take [.p 0, .v (eC (.at (.int 6)))])]])
theorem u__law_kind_2 {ρ : Z.Env} {Q : Fl → Z.Env → Prop} : wp (t__law_kind_2) ρ Q ↔ wp (zRet (zNew .tup [eVar 7, eVar 8, eVar 5, zOps gIx [.v (zNew (.lst true) [eC (.at (.int 0)), eC (.at (.int 0)), eC (.at (.int 1)), eC (.at (.int 1)), eC (.at (.int 1)), zOps gNeg [.v (eC (.at (.int 1)))]]), .v (zCall f__law_take [.p 0, .v (eC (.at (.int 6)))])]])) ρ Q := by
  unfold t__law_kind_2
  exact Iff.rfl
@[irreducible] def t__law_kind_3 : SF :=
  zSeq (zIfS (evB (zOps gEq [.p 6, .v (eC (.at (.int 2)))])) (zPar [7, 8, 5] [zOps gMin2 [.p 1, .v (eC (.at (.int 4)))], zOps gMin2 [.p 2, .v (eC (.at (.int 4)))], eC (.at (.str ("any" : Str)))]) (zNx))
  (t__law_kind_2)
theorem u__law_kind_3 {ρ : Z.Env} {Q : Fl → Z.Env → Prop} : wp (t__law_kind_3) ρ Q ↔ wp (zSeq (zIfS (evB (zOps gEq [.p 6, .v (eC (.at (.int 2)))])) (zPar [7, 8, 5] [zOps gMin2 [.p 1, .v (eC (.at (.int 4)))], zOps gMin2 [.p 2, .v (eC (.at (.int 4)))], eC (.at (.str ("any" : Str)))]) (zNx))
  (t__law_kind_2)) ρ Q := by
  unfold t__law_kind_3
  exact Iff.rfl
@[irreducible] def t__law_kind_4 : SF :=
  zSeq (zIfS (evB (zOps gEq [.p 6, .v (eC (.at (.int 1)))])) (zPar [7, 8, 5] [zOps gSub [.p 1, .v (zCall f__law_take [.p 0, .v (zOps gMin2 [.p 1, .v (eC (.at (.int 3)))])])], eC (.at (.int 1)), eC (.at (.str ("column" : Str)))]) (zNx))
  (t__law_kind_3)
theorem u__law_kind_4 {ρ : Z.Env} {Q : Fl → Z.Env → Prop} : wp (t__law_kind_4) ρ Q ↔ wp (zSeq (zIfS (evB (zOps gEq [.p 6, .v (eC (.at (.int 1)))])) (zPar [7, 8, 5] [zOps gSub [.p 1, .v (zCall f__law_take [.p 0, .v (zOps gMin2 [.p 1, .v (eC (.at (.int 3)))])])], eC (.at (.int 1)), eC (.at (.str ("column" : Str)))]) (zNx))
  (t__law_kind_3)) ρ Q := by
  unfold t__law_kind_4
  exact Iff.rfl
@[irreducible] def t__law_kind_5 : SF :=
  zSeq (zIfS (evB (zOps gEq [.p 6, .v (eC (.at (.int 0)))])) (zPar [7, 8, 5] [eC (.at (.int 1)), zOps gSub [.p 2, .v (zCall f__law_take [.p 0, .v (zOps gMin2 [.p 2, .v (eC (.at (.int 3)))])])], eC (.at (.str ("row" : Str)))]) (zNx))
  (t__law_kind_4)
theorem u__law_kind_5 {ρ : Z.Env} {Q : Fl → Z.Env → Prop} : wp (t__law_kind_5) ρ Q ↔ wp (zSeq (zIfS (evB (zOps gEq [.p 6, .v (eC (.at (.int 0)))])) (zPar [7, 8, 5] [eC (.at (.int 1)), zOps gSub [.p 2, .v (zCall f__law_take [.p 0, .v (zOps gMin2 [.p 2, .v (eC (.at (.int 3)))])])], eC (.at (.str ("row" : Str)))]) (zNx))
  (t__law_kind_4)) ρ Q := by
  unfold t__law_kind_5
  exact Iff.rfl
@[irreducible] def t__law_kind_6 : SF :=
  zSeq (zSet (tgN 6) (zCall f__law_take [.p 0, .v (eC (.at (.int 18)))]))
  (t__law_kind_5)
theorem u__law_kind_6 {ρ : Z.Env} {Q : Fl → Z.Env → Prop} : wp (t__law_kind_6) ρ Q ↔ wp (zSeq (zSet (tgN 6) (zCall f__law_take [.p 0, .v (eC (.at (.int 18)))]))
  (t__law_kind_5)) ρ Q := by
  unfold t__law_kind_6
  exact Iff.rfl
@[irreducible] def t__law_kind_7 : SF :=
  zSeq (zIfS (evB (eVar 3)) (zSeq (zSet (tgN 5) (zOps gIx [.v (zNew (.lst true) [eC (.at (.str ("row" : Str))), eC (.at (.str ("column" : Str))), eC (.at (.str ("row" : Str))), eC (.at (.str ("column" : Str))), eC (.at (.str ("any" : Str))), eC (.at (.str ("none" : Str)))]), .v (zCall f__law_take [.p 0, .v (eC (.at (.int 6)))])]))
  (t__law_kind_1)) (zNx))
  (t__law_kind_6)
theorem u__law_kind_7 {ρ : Z.Env} {Q : Fl → Z.Env → Prop} : wp (t__law_kind_7) ρ Q ↔ wp (zSeq (zIfS (evB (eVar 3)) (zSeq (zSet (tgN 5) (zOps gIx [.v (zNew (.lst true) [eC (.at (.str ("row" : Str))), eC (.at (.str ("column" : Str))), eC (.at (.str ("row" : Str))), eC (.at (.str ("column" : Str))), eC (.at (.str ("any" : Str))), eC (.at (.str ("none" : Str)))]), .v (zCall f__law_take [.p 0, .v (eC (.at (.int 6)))])]))
  (t__law_kind_1)) (zNx))
  (t__law_kind_6)) ρ Q := by
  unfold t__law_kind_7
  exact Iff.rfl
@[irreducible] def t__law_kind_8 : SF :=
  zSeq (zSet (tgN 5) (zOps gIx [.v (zNew (.lst true) [eC (.at (.str ("any" : Str))), eC (.at (.str ("any" : Str))), eC (.at (.str ("row" : Str))), eC (.at (.str ("column" : Str))), eC (.at (.str ("row" : Str))), eC (.at (.str ("none" : Str)))]), .v (zCall f__law_take [.p 0, .v (eC (.at (.int 6)))])]))
  (t__law_kind_7)
theorem u__law_kind_8 {ρ : Z.Env} {Q : Fl → Z.Env → Prop} : wp (t__law_kind_8) ρ Q ↔ wp (zSeq (zSet (tgN 5) (zOps gIx [.v (zNew (.lst true) [eC (.at (.str ("any" : Str))), eC (.at (.str ("any" : Str))), eC (.at (.str ("row" : Str))), eC (.at (.str ("column" : Str))), eC (.at (.str ("row" : Str))), eC (.at (.str ("none" : Str)))]), .v (zCall f__law_take [.p 0, .v (eC (.at (.int 6)))])]))
  (t__law_kind_7)) ρ Q := by
  unfold t__law_kind_8
  exact Iff.rfl
@[irreducible] def t__law_kind_9 : SF :=
  zSeq (zPar [7, 8] [zOps gMin2 [.p 1, .v (zOps gIx [.p 4, .v (zCall f__law_take [.p 0, .v (eC (.at (.int 6)))])])], zOps gMin2 [.p 2, .v (zOps gIx [.p 4, .v (zCall f__law_take [.p 0, .v (eC (.at (.int 6)))])])]])
  (t__law_kind_8)
theorem u__law_kind_9 {ρ : Z.Env} {Q : Fl → Z.Env → Prop} : wp (t__law_kind_9) ρ Q ↔ wp (zSeq (zPar [7, 8] [zOps gMin2 [.p 1, .v (zOps gIx [.p 4, .v (zCall f__law_take [.p 0, .v (eC (.at (.int 6)))])])], zOps gMin2 [.p 2, .v (zOps gIx [.p 4, .v (zCall f__law_take [.p 0, .v (eC (.at (.int 6)))])])]])
  (t__law_kind_8)) ρ Q := by
  unfold t__law_kind_9
  exact Iff.rfl
@[irreducible] def b__law_kind : SF :=
  zSeq (zSet (tgN 4) (zNew (.lst true) [eC (.at (.int 1)), eC (.at (.int 1)), eC (.at (.int 1)), eC (.at (.int 2)), eC (.at (.int 2)), eC (.at (.int 3))]))
  (t__law_kind_9)
@[irreducible] def f__law_kind : Fn := fnOf0 9 kp__law_kind b__law_kind
theorem sat__law_kind {ds : List D} {Q : D → Z.Env → Prop} : sat f__law_kind ds Q ↔ wp b__law_kind (fnEnv 9 ds) (fin (bkO kp__law_kind 0 ds.length) Q) := by
  unfold f__law_kind
  exact sat_fn
theorem nx__law_kind (ds : List D) (e : EX) (bk : Z.Env) : f__law_kind ds ≠ some (.exc e bk) := by
  unfold f__law_kind
  exact fnOf0_nox ds e bk
theorem dv__law_kind {P : Program} {w : World} {K : PySem.W.Frag} {mg : Str → Option Value} {base : Heap} {f : Addr} (hx : Fx w K mg) (C__law_take : Cal ⟨P, w, K, mg⟩ base CX0 1 "_law_take" P__law_take f__law_take) (cdv : Value) (A : Around) (outer : List PySem.Env) (s : Shared) (H : Hp) (E : XK) (hr : Room 1 (A.deeper (envOfC "_law_kind" (defScope s__law_kind) s.heap.objs.size f cdv))) :
    ZB (cxOf CX0 P w K mg base N__law_kind "_law_kind" (defScope s__law_kind) f cdv A outer s H E).nox W0 kp__law_kind (defBody s__law_kind) b__law_kind := by
  have hu := hu_64 hr
  have hu1 := hu_100 hr
  unfold b__law_kind t__law_kind_9 t__law_kind_8 t__law_kind_7 t__law_kind_6 t__law_kind_5 t__law_kind_4 t__law_kind_3 t__law_kind_2 t__law_kind_1 t__law_kind_0
  exact
  zb_cons (zs_set (ps_set sc__law_kind.nd rfl (by first | exact Or.inl rfl | exact Or.inr rfl) (ze_lst (zos_cons (zo_val (ze_int)) (zos_cons (zo_val (ze_int)) (zos_cons (zo_val (ze_int)) (zos_cons (zo_val (ze_int)) (zos_cons (zo_val (ze_int)) (zos_cons (zo_val (ze_int)) (zos_nil))))))) rfl)) (by decide))
    (zb_cons (zs_par (ps_par rfl sc__law_kind.nd rfl rfl (by decide) rfl rfl (zos_cons (zo_val (ze_min2 (by rfl) (by rfl) hx.n_min (zo_slot (pv 1)) (zo_val (ze_sub hu (zo_slot (pv 4)) (zo_val (ze_call C__law_take (hr.mono (by decide)) (by rfl) (zos_cons (zo_slot (pv 0)) (zos_cons (zo_val (ze_int)) (zos_nil))) rfl nx__law_take)))))) (zos_cons (zo_val (ze_min2 (by rfl) (by rfl) hx.n_min (zo_slot (pv 2)) (zo_val (ze_sub hu (zo_slot (pv 4)) (zo_val (ze_call C__law_take (hr.mono (by decide)) (by rfl) (zos_cons (zo_slot (pv 0)) (zos_cons (zo_val (ze_int)) (zos_nil))) rfl nx__law_take)))))) (zos_nil))) rfl))
    (zb_cons (zs_set (ps_set sc__law_kind.nd rfl (by first | exact Or.inl rfl | exact Or.inr rfl) (ze_sub hu (zo_val (ze_lst (zos_cons (zo_val (ze_str)) (zos_cons (zo_val (ze_str)) (zos_cons (zo_val (ze_str)) (zos_cons (zo_val (ze_str)) (zos_cons (zo_val (ze_str)) (zos_cons (zo_val (ze_str)) (zos_nil))))))) rfl)) (zo_val (ze_call C__law_take (hr.mono (by decide)) (by rfl) (zos_cons (zo_slot (pv 0)) (zos_cons (zo_val (ze_int)) (zos_nil))) rfl nx__law_take)))) (by decide))
    (zb_cons (zs_if (zt_val (ze_var (pv 3))) (zb_cons (zs_set (ps_set sc__law_kind.nd rfl (by first | exact Or.inl rfl | exact Or.inr rfl) (ze_sub hu (zo_val (ze_lst (zos_cons (zo_val (ze_str)) (zos_cons (zo_val (ze_str)) (zos_cons (zo_val (ze_str)) (zos_cons (zo_val (ze_str)) (zos_cons (zo_val (ze_str)) (zos_cons (zo_val (ze_str)) (zos_nil))))))) rfl)) (zo_val (ze_call C__law_take (hr.mono (by decide)) (by rfl) (zos_cons (zo_slot (pv 0)) (zos_cons (zo_val (ze_int)) (zos_nil))) rfl nx__law_take)))) (by decide))
    (zb_cons (zs_if (zt_eq hu (zo_slot (pv 5)) (zo_val (ze_str))) (zb_one (zs_par (ps_par rfl sc__law_kind.nd rfl rfl (by decide) rfl rfl (zos_cons (zo_val (ze_minus (zo_slot (pv 1)) (zo_val (ze_call C__law_take (hr.mono (by decide)) (by rfl) (zos_cons (zo_slot (pv 0)) (zos_cons (zo_val (ze_int)) (zos_nil))) rfl nx__law_take)))) (zos_cons (zo_val (ze_int)) (zos_nil))) rfl))) (zb_nil))
    (zb_one (zs_if (zt_eq hu (zo_slot (pv 5)) (zo_val (ze_str))) (zb_one (zs_par (ps_par rfl sc__law_kind.nd rfl rfl (by decide) rfl rfl (zos_cons (zo_val (ze_int)) (zos_cons (zo_val (ze_minus (zo_slot (pv 2)) (zo_val (ze_call C__law_take (hr.mono (by decide)) (by rfl) (zos_cons (zo_slot (pv 0)) (zos_cons (zo_val (ze_int)) (zos_nil))) rfl nx__law_take)))) (zos_nil))) rfl))) (zb_nil))))) (zb_nil))
    (zb_cons (zs_set (ps_set sc__law_kind.nd rfl (by first | exact Or.inl rfl | exact Or.inr rfl) (ze_call C__law_take (hr.mono (by decide)) (by rfl) (zos_cons (zo_slot (pv 0)) (zos_cons (zo_val (ze_int)) (zos_nil))) rfl nx__law_take)) (by decide))
    (zb_cons (zs_if (zt_eq hu (zo_slot (pv 6)) (zo_val (ze_int))) (zb_one (zs_par3 (ps_par3 (by rfl) sc__law_kind.nd rfl rfl rfl (by decide) (by decide) (by decide) rfl rfl rfl (zos_cons (zo_val (ze_int)) (zos_cons (zo_val (ze_minus (zo_slot (pv 2)) (zo_val (ze_call C__law_take (hr.mono (by decide)) (by rfl) (zos_cons (zo_slot (pv 0)) (zos_cons (zo_val (ze_min2 (by rfl) (by rfl) hx.n_min (zo_slot (pv 2)) (zo_val (ze_int)))) (zos_nil))) rfl nx__law_take)))) (zos_cons (zo_val (ze_str)) (zos_nil)))) rfl))) (zb_nil))
    (zb_cons (zs_if (zt_eq hu (zo_slot (pv 6)) (zo_val (ze_int))) (zb_one (zs_par3 (ps_par3 (by rfl) sc__law_kind.nd rfl rfl rfl (by decide) (by decide) (by decide) rfl rfl rfl (zos_cons (zo_val (ze_minus (zo_slot (pv 1)) (zo_val (ze_call C__law_take (hr.mono (by decide)) (by rfl) (zos_cons (zo_slot (pv 0)) (zos_cons (zo_val (ze_min2 (by rfl) (by rfl) hx.n_min (zo_slot (pv 1)) (zo_val (ze_int)))) (zos_nil))) rfl nx__law_take)))) (zos_cons (zo_val (ze_int)) (zos_cons (zo_val (ze_str)) (zos_nil)))) rfl))) (zb_nil))
    (zb_cons (zs_if (zt_eq hu (zo_slot (pv 6)) (zo_val (ze_int))) (zb_one (zs_par3 (ps_par3 (by rfl) sc__law_kind.nd rfl rfl rfl (by decide) (by decide) (by decide) rfl rfl rfl (zos_cons (zo_val (ze_min2 (by rfl) (by rfl) hx.n_min (zo_slot (pv 1)) (zo_val (ze_int)))) (zos_cons (zo_val (ze_min2 (by rfl) (by rfl) hx.n_min (zo_slot (pv 2)) (zo_val (ze_int)))) (zos_cons (zo_val (ze_str)) (zos_nil)))) rfl))) (zb_nil))
    (zb_one (zs_ret (ze_tup (zos_cons (zo_val (ze_var (pv 7))) (zos_cons (zo_val (ze_var (pv 8))) (zos_cons (zo_val (ze_var (pv 5))) (zos_cons (zo_val (ze_sub hu (zo_val (ze_lst (zos_cons (zo_val (ze_int)) (zos_cons (zo_val (ze_int)) (zos_cons (zo_val (ze_int)) (zos_cons (zo_val (ze_int)) (zos_cons (zo_val (ze_int)) (zos_cons (zo_val (ze_neg (zo_val (ze_int)))) (zos_nil))))))) rfl)) (zo_val (ze_call C__law_take (hr.mono (by decide)) (by rfl) (zos_cons (zo_slot (pv 0)) (zos_cons (zo_val (ze_int)) (zos_nil))) rfl nx__law_take)))) (zos_nil))))) rfl))))))))))
theorem cal__law_kind {P : Program} {w : World} {K : PySem.W.Frag} {mg : Str → Option Value} {base : Heap} (hx : Fx w K mg) : Cal ⟨P, w, K, mg⟩ base CX0 2 "_law_kind" P__law_kind f__law_kind := by
  unfold f__law_kind
  obtain ⟨f, fd, F, hm⟩ := hx.m__law_kind
  exact ⟨f, fd, fn_okD F sc__law_kind (dv__law_kind hx (cal__law_take hx)), hm, F.kp, F.bindsN fun _ _ _ _ _ _ us hl => match us, hl with | [_, _, _, _], _ => rfl⟩
/-! _law_hall -/
abbrev N__law_hall : List Str := ["_law_state", "_law_broad", "_law_much", "_law_cells", "_law_shuts", "_law_taken", "_law_kinds", "_law_places", "_law_rooms", "_law_turn", "_law_wide", "_law_high", "_law_kind_here", "_law_place", "_law_own", "_law_room", "_law_cell"]
abbrev P__law_hall : List Str := ["_law_state", "_law_broad", "_law_much"]
abbrev kp__law_hall : List Nat := [0, 1, 2]
theorem sc__law_hall : FnScope N__law_hall P__law_hall (defScope s__law_hall) := ⟨rfl, rfl, rfl, by decide +kernel, rfl, by decide +kernel, by decide +kernel⟩
@[irreducible] def t__law_hall_0 : SF :=
  zFor (zListI (eVar 14)) (tgN 16) (zSet (tgSub 5 [] (eVar 16) uSet) (eC (.at (.bl true))))
theorem u__law_hall_0 {ρ : Z.Env} {Q : Fl → Z.Env → Prop} : wp (t__law_hall_0) ρ Q ↔ wp (zFor (zListI (eVar 14)) (tgN 16) (zSet (tgSub 5 [] (eVar 16) uSet) (eC (.at (.bl true))))) ρ Q := by
  unfold t__law_hall_0
  exact Iff.rfl
@[irreducible] def t__law_hall_1 : SF :=
  zSeq (zEx (zMut "list" 7 [] uAppend [eVar 13]))
  (t__law_hall_0)
theorem u__law_hall_1 {ρ : Z.Env} {Q : Fl → Z.Env → Prop} : wp (t__law_hall_1) ρ Q ↔ wp (zSeq (zEx (zMut "list" 7 [] uAppend [eVar 13]))
  (t__law_hall_0)) ρ Q := by
  unfold t__law_hall_1
  exact Iff.rfl
@[irreducible] def t__law_hall_2 : SF :=
  zSeq (zEx (zMut "list" 6 [] uAppend [eVar 12]))
  (t__law_hall_1)
theorem u__law_hall_2 {ρ : Z.Env} {Q : Fl → Z.Env → Prop} : wp (t__law_hall_2) ρ Q ↔ wp (zSeq (zEx (zMut "list" 6 [] uAppend [eVar 12]))
  (t__law_hall_1)) ρ Q := by
  unfold t__law_hall_2
  exact Iff.rfl
@[irreducible] def t__law_hall_3 : SF :=
  zIfS (tAndF (evB (zOps gLt [.v (zOps gLen [.p 6]), .v (eC (.at (.int 12)))])) (tAndF (evB (zOps gLe [.v (zOps gMul [.p 8, .p 15]), .p 2])) (tNotF (evB (zOps (one1 gAny) [.v (zLc 17 (zListI (eVar 14)) (tgN 16) none (zOps gIn [.p 16, .p 5]) [16])]))))) (zSeq (zSet (tgN 8) (zOps gMul [.p 8, .p 15]))
  (t__law_hall_2)) (zNx)
theorem u__law_hall_3 {ρ : Z.Env} {Q : Fl → Z.Env → Prop} : wp (t__law_hall_3) ρ Q ↔ wp (zIfS (tAndF (evB (zOps gLt [.v (zOps gLen [.p 6]), .v (eC (.at (.int 12)))])) (tAndF (evB (zOps gLe [.v (zOps gMul [.p 8, .p 15]), .p 2])) (tNotF (evB (zOps (one1 gAny) [.v (zLc 17 (zListI (eVar 14)) (tgN 16) none (zOps gIn [.p 16, .p 5]) [16])]))))) (zSeq (zSet (tgN 8) (zOps gMul [.p 8, .p 15]))
  (t__law_hall_2)) (zNx)) ρ Q := by
  unfold t__law_hall_3
  exact Iff.rfl
@[irreducible] def t__law_hall_4 : SF :=
  zSeq (zSet (tgN 15) (zCall f__law_room_of [.p 10, .p 11, .p 12]))
  (t__law_hall_3)
theorem u__law_hall_4 {ρ : Z.Env} {Q : Fl → Z.Env → Prop} : wp (t__law_hall_4) ρ Q ↔ wp (zSeq (zSet (tgN 15) (zCall f__law_room_of [.p 10, .p 11, .p 12]))
  (t__law_hall_3)) ρ Q := by
  unfold t__law_hall_4
  exact Iff.rfl
@[irreducible] def t__law_hall_5 : SF :=
  zSeq (zSet (tgN 14) (zCall f__law_covered [.p 12, .p 13]))
  (t__law_hall_4)
theorem u__law_hall_5 {ρ : Z.Env} {Q : Fl → Z.Env → Prop} : wp (t__law_hall_5) ρ Q ↔ wp (zSeq (zSet (tgN 14) (zCall f__law_covered [.p 12, .p 13]))
  (t__law_hall_4)) ρ Q := by
  unfold t__law_hall_5
  exact Iff.rfl
@[irreducible] def t__law_hall_6 : SF :=
  zSeq (zSet (tgN 13) (zNew .tup [zCall f__law_take [.p 0, .v (zOps gAdd [.v (zOps gSub [.p 10, .v (zOps gIx [.p 12, .v (eC (.at (.int 0)))])]), .v (eC (.at (.int 1)))])], zCall f__law_take [.p 0, .v (zOps gAdd [.v (zOps gSub [.p 11, .v (zOps gIx [.p 12, .v (eC (.at (.int 1)))])]), .v (eC (.at (.int 1)))])]]))
  (t__law_hall_5)
theorem u__law_hall_6 {ρ : Z.Env} {Q : Fl → Z.Env → Prop} : wp (t__law_hall_6) ρ Q ↔ wp (zSeq (zSet (tgN 13) (zNew .tup [zCall f__law_take [.p 0, .v (zOps gAdd [.v (zOps gSub [.p 10, .v (zOps gIx [.p 12, .v (eC (.at (.int 0)))])]), .v (eC (.at (.int 1)))])], zCall f__law_take [.p 0, .v (zOps gAdd [.v (zOps gSub [.p 11, .v (zOps gIx [.p 12, .v (eC (.at (.int 1)))])]), .v (eC (.at (.int 1)))])]]))
  (t__law_hall_5)) ρ Q := by
  unfold t__law_hall_6
  exact Iff.rfl
@[irreducible] def t__law_hall_7 : SF :=
  zRet (zNew .tup [zNew .tup [eVar 10, eVar 11, zOps (one1 gTupOf) [.p 4], zOps (one1 gTupOf) [.p 6]], zOps (one1 gTupOf) [.p 7]])
theorem u__law_hall_7 {ρ : Z.Env} {Q : Fl → Z.Env → Prop} : wp (t__law_hall_7) ρ Q ↔ wp (zRet (zNew .tup [zNew .tup [eVar 10, eVar 11, zOps (one1 gTupOf) [.p 4], zOps (one1 gTupOf) [.p 6]], zOps (one1 gTupOf) [.p 7]])) ρ Q := by
  unfold t__law_hall_7
  exact Iff.rfl
@[irreducible] def t__law_hall_8 : SF :=
  zSeq (zFor (zRng1 (zOps gIx [.v (zNew (.lst true) [zOps gAdd [.v (eC (.at (.int 2))), .v (zCall f__law_take [.p 0, .v (eC (.at (.int 6)))])], eC (.at (.int 30))]), .v (zOps (one1 gInt1) [.p 1])])) (tgN 9) (zSeq (zSet (tgN 12) (zCall f__law_kind [.p 0, .p 10, .p 11, .p 1]))
  (t__law_hall_6)))
  (t__law_hall_7)
theorem u__law_hall_8 {ρ : Z.Env} {Q : Fl → Z.Env → Prop} : wp (t__law_hall_8) ρ Q ↔ wp (zSeq (zFor (zRng1 (zOps gIx [.v (zNew (.lst true) [zOps gAdd [.v (eC (.at (.int 2))), .v (zCall f__law_take [.p 0, .v (eC (.at (.int 6)))])], eC (.at (.int 30))]), .v (zOps (one1 gInt1) [.p 1])])) (tgN 9) (zSeq (zSet (tgN 12) (zCall f__law_kind [.p 0, .p 10, .p 11, .p 1]))
  (t__law_hall_6)))
  (t__law_hall_7)) ρ Q := by
  unfold t__law_hall_8
  exact Iff.rfl
@[irreducible] def t__law_hall_9 : SF :=
  zSeq (zSet (tgN 8) (eC (.at (.int 1))))
  (t__law_hall_8)
theorem u__law_hall_9 {ρ : Z.Env} {Q : Fl → Z.Env → Prop} : wp (t__law_hall_9) ρ Q ↔ wp (zSeq (zSet (tgN 8) (eC (.at (.int 1))))
  (t__law_hall_8)) ρ Q := by
  unfold t__law_hall_9
  exact Iff.rfl
@[irreducible] def t__law_hall_10 : SF :=
  zSeq (zSet (tgN 7) (zNew (.lst true) []))
  (t__law_hall_9)
theorem u__law_hall_10 {ρ : Z.Env} {Q : Fl → Z.Env → Prop} : wp (t__law_hall_10) ρ Q ↔ wp (zSeq (zSet (tgN 7) (zNew (.lst true) []))
  (t__law_hall_9)) ρ Q := by
  unfold t__law_hall_10
  exact Iff.rfl
@[irreducible] def t__law_hall_11 : SF :=
  zSeq (zSet (tgN 6) (zNew (.lst true) []))
  (t__law_hall_10)
theorem u__law_hall_11 {ρ : Z.Env} {Q : Fl → Z.Env → Prop} : wp (t__law_hall_11) ρ Q ↔ wp (zSeq (zSet (tgN 6) (zNew (.lst true) []))
  (t__law_hall_10)) ρ Q := by
  unfold t__law_hall_11
  exact Iff.rfl
@[irreducible] def t__law_hall_12 : SF :=
  zSeq (zSet (tgN 5) (zOps (one1 gDictN) [.v (zLc 17 (zListI (eVar 4)) (tgN 16) none (zNew .tup [eVar 16, eC (.at (.bl true))]) [16])]))
  (t__law_hall_11)
theorem u__law_hall_12 {ρ : Z.Env} {Q : Fl → Z.Env → Prop} : wp (t__law_hall_12) ρ Q ↔ wp (zSeq (zSet (tgN 5) (zOps (one1 gDictN) [.v (zLc 17 (zListI (eVar 4)) (tgN 16) none (zNew .tup [eVar 16, eC (.at (.bl true))]) [16])]))
  (t__law_hall_11)) ρ Q := by
  unfold t__law_hall_12
  exact Iff.rfl
@[irreducible] def t__law_hall_13 : SF :=
  zSeq (zSet (tgN 4) (zLc 17 (zListI (eVar 3)) (tgN 16) (some (evB (zOps gEq [.v (zCall f__law_take [.p 0, .v (zOps gIx [.v (zNew (.lst true) [eC (.at (.int 9)), eC (.at (.int 20))]), .v (zOps (one1 gInt1) [.p 1])])]), .v (eC (.at (.int 0)))]))) (eVar 16) [16]))
  (t__law_hall_12)
theorem u__law_hall_13 {ρ : Z.Env} {Q : Fl → Z.Env → Prop} : wp (t__law_hall_13) ρ Q ↔ wp (zSeq (zSet (tgN 4) (zLc 17 (zListI (eVar 3)) (tgN 16) (some (evB (zOps gEq [.v (zCall f__law_take [.p 0, .v (zOps gIx [.v (zNew (.lst true) [eC (.at (.int 9)), eC (.at (.int 20))]), .v (zOps (one1 gInt1) [.p 1])])]), .v (eC (.at (.int 0)))]))) (eVar 16) [16]))
  (t__law_hall_12)) ρ Q := by
  unfold t__law_hall_13
  exact Iff.rfl
@[irreducible] def t__law_hall_14 : SF :=
  zSeq (zSet (tgN 3) (zCall f__law_covered [.v (zNew .tup [eVar 10, eVar 11, eC (.at (.str ("none" : Str))), eC (.at (.int 0))]), .v (zNew .tup [eC (.at (.int 0)), eC (.at (.int 0))])]))
  (t__law_hall_13)
theorem u__law_hall_14 {ρ : Z.Env} {Q : Fl → Z.Env → Prop} : wp (t__law_hall_14) ρ Q ↔ wp (zSeq (zSet (tgN 3) (zCall f__law_covered [.v (zNew .tup [eVar 10, eVar 11, eC (.at (.str ("none" : Str))), eC (.at (.int 0))]), .v (zNew .tup [eC (.at (.int 0)), eC (.at (.int 0))])]))
  (t__law_hall_13)) ρ Q := by
  unfold t__law_hall_14
  exact Iff.rfl
@[irreducible] def b__law_hall : SF :=
  zSeq (zSet (tgT [tgN 10, tgN 11]) (zCall f__law_sized [.p 0, .p 1]))
  (t__law_hall_14)
@[irreducible] def f__law_hall : Fn := fnOf0 17 kp__law_hall b__law_hall
theorem sat__law_hall {ds : List D} {Q : D → Z.Env → Prop} : sat f__law_hall ds Q ↔ wp b__law_hall (fnEnv 17 ds) (fin (bkO kp__law_hall 0 ds.length) Q) := by
  unfold f__law_hall
  exact sat_fn
theorem nx__law_hall (ds : List D) (e : EX) (bk : Z.Env) : f__law_hall ds ≠ some (.exc e bk) := by
  unfold f__law_hall
  exact fnOf0_nox ds e bk
theorem dv__law_hall {P : Program} {w : World} {K : PySem.W.Frag} {mg : Str → Option Value} {base : Heap} {f : Addr} (hx : Fx w K mg) (C__law_sized : Cal ⟨P, w, K, mg⟩ base CX0 2 "_law_sized" P__law_sized f__law_sized) (C__law_covered : Cal ⟨P, w, K, mg⟩ base CX0 1 "_law_covered" P__law_covered f__law_covered) (C__law_kind : Cal ⟨P, w, K, mg⟩ base CX0 2 "_law_kind" P__law_kind f__law_kind) (C__law_room_of : Cal ⟨P, w, K, mg⟩ base CX0 1 "_law_room_of" P__law_room_of f__law_room_of) (C__law_take : Cal ⟨P, w, K, mg⟩ base CX0 1 "_law_take" P__law_take f__law_take) (cdv : Value) (A : Around) (outer : List PySem.Env) (s : Shared) (H : Hp) (E : XK) (hr : Room 2 (A.deeper (envOfC "_law_hall" (defScope s__law_hall) s.heap.objs.size f cdv))) :
    ZB (cxOf CX0 P w K mg base N__law_hall "_law_hall" (defScope s__law_hall) f cdv A outer s H E).nox W0 kp__law_hall (defBody s__law_hall) b__law_hall := by
  have hu := hu_64 hr
  have hu1 := hu_100 hr
  unfold b__law_hall t__law_hall_14 t__law_hall_13 t__law_hall_12 t__law_hall_11 t__law_hall_10 t__law_hall_9 t__law_hall_8 t__law_hall_7 t__law_hall_6 t__law_hall_5 t__law_hall_4 t__law_hall_3 t__law_hall_2 t__law_hall_1 t__law_hall_0
  exact
  zb_cons (zs_tgt (ze_call C__law_sized (hr.mono (by decide)) (by rfl) (zos_cons (zo_slot (pv 0)) (zos_cons (zo_slot (pv 1)) (zos_nil))) rfl nx__law_sized) (zg_tup (by rfl) (zgs_cons (zg_name (pg_name sc__law_hall.nd rfl (by first | exact Or.inl rfl | exact Or.inr rfl)) (by decide)) (zgs_cons (zg_name (pg_name sc__law_hall.nd rfl (by first | exact Or.inl rfl | exact Or.inr rfl)) (by decide)) (zgs_nil)))))
    (zb_cons (zs_set (ps_set sc__law_hall.nd rfl (by first | exact Or.inl rfl | exact Or.inr rfl) (ze_call C__law_covered (hr.mono (by decide)) (by rfl) (zos_cons (zo_val (ze_tup (zos_cons (zo_val (ze_var (pv 10))) (zos_cons (zo_val (ze_var (pv 11))) (zos_cons (zo_val (ze_str)) (zos_cons (zo_val (ze_int)) (zos_nil))))) rfl)) (zos_cons (zo_val (ze_tup (zos_cons (zo_val (ze_int)) (zos_cons (zo_val (ze_int)) (zos_nil))) rfl)) (zos_nil))) rfl nx__law_covered)) (by decide))
    (zb_cons (zs_setLc rfl sc__law_hall.nd rfl rfl rfl (zi_list (ze_var (pv 3))) (blkOk_by (N := N__law_hall) (sc := defScope s__law_hall) (own := [("_law_cell", 16)]) (by decide +kernel)) rfl (fun _ _ _ _ _ => zg_name (pg_name sc__law_hall.nd rfl (by first | exact Or.inl rfl | exact Or.inr rfl)) (by decide)) (fun _ _ _ _ _ => pts_one (zt_eq hu (zo_val (ze_call C__law_take (hr.mono (by decide)) (by rfl) (zos_cons (zo_slot (pv 0)) (zos_cons (zo_val (ze_sub hu (zo_val (ze_lst (zos_cons (zo_val (ze_int)) (zos_cons (zo_val (ze_int)) (zos_nil))) rfl)) (zo_val (ze_int1 (by rfl) hx.n_int (zo_slot (pv 1)))))) (zos_nil))) rfl nx__law_take)) (zo_val (ze_int)))) (fun _ _ _ _ _ => ze_var (pv 16)) (by decide))
    (zb_cons (zs_set (ps_set sc__law_hall.nd rfl (by first | exact Or.inl rfl | exact Or.inr rfl) (ze_dictN (by rfl) hu (by rfl) hx.n_dict (zo_val (ze_lc (by rfl) sc__law_hall.nd (zi_list (ze_var (pv 4))) (blkOk_by (N := N__law_hall) (sc := defScope s__law_hall) (own := [("_law_cell", 16)]) (by decide +kernel)) rfl (fun _ _ _ _ _ => zg_name (pg_name sc__law_hall.nd rfl (by first | exact Or.inl rfl | exact Or.inr rfl)) (by decide)) (fun _ _ _ _ _ => pts_nil) (fun _ _ _ _ _ => ze_tup (zos_cons (zo_val (ze_var (pv 16))) (zos_cons (zo_val (ze_bl)) (zos_nil))) rfl))))) (by decide))
    (zb_cons (zs_set (ps_set sc__law_hall.nd rfl (by first | exact Or.inl rfl | exact Or.inr rfl) (ze_lst (zos_nil) rfl)) (by decide))
    (zb_cons (zs_set (ps_set sc__law_hall.nd rfl (by first | exact Or.inl rfl | exact Or.inr rfl) (ze_lst (zos_nil) rfl)) (by decide))
    (zb_cons (zs_set (ps_set sc__law_hall.nd rfl (by first | exact Or.inl rfl | exact Or.inr rfl) (ze_int)) (by decide))
    (zb_cons (zs_for PassesOwn.never (by rfl) (zi_range1 (by rfl) hx.n_range (ze_sub hu (zo_val (ze_lst (zos_cons (zo_val (ze_add (zo_val (ze_int)) (zo_val (ze_call C__law_take (hr.mono (by decide)) (by rfl) (zos_cons (zo_slot (pv 0)) (zos_cons (zo_val (ze_int)) (zos_nil))) rfl nx__law_take)))) (zos_cons (zo_val (ze_int)) (zos_nil))) rfl)) (zo_val (ze_int1 (by rfl) hx.n_int (zo_slot (pv 1)))))) (zg_name (pg_name sc__law_hall.nd rfl (by first | exact Or.inl rfl | exact Or.inr rfl)) (by decide)) (zb_cons (zs_set (ps_set sc__law_hall.nd rfl (by first | exact Or.inl rfl | exact Or.inr rfl) (ze_call C__law_kind (hr.mono (by decide)) (by rfl) (zos_cons (zo_slot (pv 0)) (zos_cons (zo_slot (pv 10)) (zos_cons (zo_slot (pv 11)) (zos_cons (zo_slot (pv 1)) (zos_nil))))) rfl nx__law_kind)) (by decide))
    (zb_cons (zs_set (ps_set sc__law_hall.nd rfl (by first | exact Or.inl rfl | exact Or.inr rfl) (ze_tup (zos_cons (zo_val (ze_call C__law_take (hr.mono (by decide)) (by rfl) (zos_cons (zo_slot (pv 0)) (zos_cons (zo_val (ze_add (zo_val (ze_minus (zo_slot (pv 10)) (zo_val (ze_sub hu (zo_slot (pv 12)) (zo_val (ze_int)))))) (zo_val (ze_int)))) (zos_nil))) rfl nx__law_take)) (zos_cons (zo_val (ze_call C__law_take (hr.mono (by decide)) (by rfl) (zos_cons (zo_slot (pv 0)) (zos_cons (zo_val (ze_add (zo_val (ze_minus (zo_slot (pv 11)) (zo_val (ze_sub hu (zo_slot (pv 12)) (zo_val (ze_int)))))) (zo_val (ze_int)))) (zos_nil))) rfl nx__law_take)) (zos_nil))) rfl)) (by decide))
    (zb_cons (zs_set (ps_set sc__law_hall.nd rfl (by first | exact Or.inl rfl | exact Or.inr rfl) (ze_call C__law_covered (hr.mono (by decide)) (by rfl) (zos_cons (zo_slot (pv 12)) (zos_cons (zo_slot (pv 13)) (zos_nil))) rfl nx__law_covered)) (by decide))
    (zb_cons (zs_set (ps_set sc__law_hall.nd rfl (by first | exact Or.inl rfl | exact Or.inr rfl) (ze_call C__law_room_of (hr.mono (by decide)) (by rfl) (zos_cons (zo_slot (pv 10)) (zos_cons (zo_slot (pv 11)) (zos_cons (zo_slot (pv 12)) (zos_nil)))) rfl nx__law_room_of)) (by decide))
    (zb_one (zs_if (zt_w (zw_and (zt_lt hu (zo_val (ze_len (by rfl) hx.n_len (zo_slot (pv 6)))) (zo_val (ze_int))) (zw_and (zt_le  (zo_val (ze_mul (zo_slot (pv 8)) (zo_slot (pv 15)))) (zo_slot (pv 2))) (zw_and1 (zt_not (zt_val (ze_any (by rfl) (by rfl) hx.n_any (zo_val (ze_lc (by rfl) sc__law_hall.nd (zi_list (ze_var (pv 14))) (blkOk_by (N := N__law_hall) (sc := defScope s__law_hall) (own := [("_law_cell", 16)]) (by decide +kernel)) rfl (fun _ _ _ _ _ => zg_name (pg_name sc__law_hall.nd rfl (by first | exact Or.inl rfl | exact Or.inr rfl)) (by decide)) (fun _ _ _ _ _ => pts_nil) (fun _ _ _ _ _ => ze_in hu1 (zo_slot (pv 16)) (zo_slot (pv 5)) (by first | rfl | exact nomark _))))))))))) (zb_cons (zs_set (ps_set sc__law_hall.nd rfl (by first | exact Or.inl rfl | exact Or.inr rfl) (ze_mul (zo_slot (pv 8)) (zo_slot (pv 15)))) (by decide))
    (zb_cons (zs_expr (ze_append (pe_pl0 (pv 6)) (ze_var (pv 12)) (Or.inl rfl)))
    (zb_cons (zs_expr (ze_append (pe_pl0 (pv 7)) (ze_var (pv 13)) (Or.inl rfl)))
    (zb_one (zs_for PassesOwn.never (by rfl) (zi_list (ze_var (pv 14))) (zg_name (pg_name sc__law_hall.nd rfl (by first | exact Or.inl rfl | exact Or.inr rfl)) (by decide)) (zb_one (zs_tgt (ze_bl) (zg_set (W := W0) hu (pe_pl0 (pv 5)) (ze_var (pv 16)) (Or.inl rfl))))))))) (zb_nil))))))))
    (zb_one (zs_ret (ze_tup (zos_cons (zo_val (ze_tup (zos_cons (zo_val (ze_var (pv 10))) (zos_cons (zo_val (ze_var (pv 11))) (zos_cons (zo_val (ze_tupOf (by rfl) hx.n_tuple (zo_slot (pv 4)))) (zos_cons (zo_val (ze_tupOf (by rfl) hx.n_tuple (zo_slot (pv 6)))) (zos_nil))))) rfl)) (zos_cons (zo_val (ze_tupOf (by rfl) hx.n_tuple (zo_slot (pv 7)))) (zos_nil))) rfl))))))))))
theorem cal__law_hall {P : Program} {w : World} {K : PySem.W.Frag} {mg : Str → Option Value} {base : Heap} (hx : Fx w K mg) : Cal ⟨P, w, K, mg⟩ base CX0 3 "_law_hall" P__law_hall f__law_hall := by
  unfold f__law_hall
  obtain ⟨f, fd, F, hm⟩ := hx.m__law_hall
  exact ⟨f, fd, fn_okD F sc__law_hall (dv__law_hall hx (cal__law_sized hx) (cal__law_covered hx) (cal__law_kind hx) (cal__law_room_of hx) (cal__law_take hx)), hm, F.kp, F.bindsN fun _ _ _ _ _ _ us hl => match us, hl with | [_, _, _], _ => rfl⟩
/-! _law_picture -/
abbrev N__law_picture : List Str := ["_law_hall_here", "_law_stand", "_law_found", "_law_y", "_law_wide", "_law_high", "_law_shuts", "_law_kinds", "_law_row", "_law_x", "_law_mark", "_law_n", "_law_place"]
abbrev P__law_picture : List Str := ["_law_hall_here", "_law_stand"]
abbrev kp__law_picture : List Nat := [0, 1]
theorem sc__law_picture : FnScope N__law_picture P__law_picture (defScope s__law_picture) := ⟨rfl, rfl, rfl, by decide +kernel, rfl, by decide +kernel, by decide +kernel⟩
@[irreducible] def t__law_picture_0 : SF :=
  zSet (tgN 8) (zOps gAdd [.p 8, .p 10])
theorem u__law_picture_0 {ρ : Z.Env} {Q : Fl → Z.Env → Prop} : wp (t__law_picture_0) ρ Q ↔ wp (zSet (tgN 8) (zOps gAdd [.p 8, .p 10])) ρ Q := by
  unfold t__law_picture_0
  exact Iff.rfl
@[irreducible] def t__law_picture_1 : SF :=
  zSeq (zFor (zEnum (eVar 1)) (tgT [tgN 11, tgN 12]) (zIfS (evB (zOps gIn [.v (zNew .tup [eVar 9, eVar 3]), .v (zCall f__law_covered [.v (zOps gIx [.p 7, .p 11]), .p 12])])) (zSet (tgN 10) (zOps gIx [.v (eC (.at (.str ("abcdefghijkl" : Str)))), .p 11])) (zNx)))
  (t__law_picture_0)
theorem u__law_picture_1 {ρ : Z.Env} {Q : Fl → Z.Env → Prop} : wp (t__law_picture_1) ρ Q ↔ wp (zSeq (zFor (zEnum (eVar 1)) (tgT [tgN 11, tgN 12]) (zIfS (evB (zOps gIn [.v (zNew .tup [eVar 9, eVar 3]), .v (zCall f__law_covered [.v (zOps gIx [.p 7, .p 11]), .p 12])])) (zSet (tgN 10) (zOps gIx [.v (eC (.at (.str ("abcdefghijkl" : Str)))), .p 11])) (zNx)))
  (t__law_picture_0)) ρ Q := by
  unfold t__law_picture_1
  exact Iff.rfl
@[irreducible] def t__law_picture_2 : SF :=
  zEx (zMut "list" 2 [] uAppend [eVar 8])
theorem u__law_picture_2 {ρ : Z.Env} {Q : Fl → Z.Env → Prop} : wp (t__law_picture_2) ρ Q ↔ wp (zEx (zMut "list" 2 [] uAppend [eVar 8])) ρ Q := by
  unfold t__law_picture_2
  exact Iff.rfl
@[irreducible] def t__law_picture_3 : SF :=
  zSeq (zFor (zRng1 (eVar 4)) (tgN 9) (zSeq (zSet (tgN 10) (zIf (evB (zOps gIn [.v (zNew .tup [eVar 9, eVar 3]), .p 6])) (eC (.at (.str ("#" : Str)))) (eC (.at (.str ("." : Str))))))
  (t__law_picture_1)))
  (t__law_picture_2)
theorem u__law_picture_3 {ρ : Z.Env} {Q : Fl → Z.Env → Prop} : wp (t__law_picture_3) ρ Q ↔ wp (zSeq (zFor (zRng1 (eVar 4)) (tgN 9) (zSeq (zSet (tgN 10) (zIf (evB (zOps gIn [.v (zNew .tup [eVar 9, eVar 3]), .p 6])) (eC (.at (.str ("#" : Str)))) (eC (.at (.str ("." : Str))))))
  (t__law_picture_1)))
  (t__law_picture_2)) ρ Q := by
  unfold t__law_picture_3
  exact Iff.rfl
@[irreducible] def t__law_picture_4 : SF :=
  zRet (eMove 2)
theorem u__law_picture_4 {ρ : Z.Env} {Q : Fl → Z.Env → Prop} : wp (t__law_picture_4) ρ Q ↔ wp (zRet (eMove 2)) ρ Q := by
  unfold t__law_picture_4
  exact Iff.rfl
@[irreducible] def t__law_picture_5 : SF :=
  zSeq (zFor (zRevR1 (eVar 5)) (tgN 3) (zSeq (zSet (tgN 8) (eC (.at (.str ("" : Str)))))
  (t__law_picture_3)))
  (t__law_picture_4)
theorem u__law_picture_5 {ρ : Z.Env} {Q : Fl → Z.Env → Prop} : wp (t__law_picture_5) ρ Q ↔ wp (zSeq (zFor (zRevR1 (eVar 5)) (tgN 3) (zSeq (zSet (tgN 8) (eC (.at (.str ("" : Str)))))
  (t__law_picture_3)))
  (t__law_picture_4)) ρ Q := by
  unfold t__law_picture_5
  exact Iff.rfl
@[irreducible] def t__law_picture_6 : SF :=
  zSeq (zSet (tgN 2) (zNew (.lst true) []))
  (t__law_picture_5)
theorem u__law_picture_6 {ρ : Z.Env} {Q : Fl → Z.Env → Prop} : wp (t__law_picture_6) ρ Q ↔ wp (zSeq (zSet (tgN 2) (zNew (.lst true) []))
  (t__law_picture_5)) ρ Q := by
  unfold t__law_picture_6
  exact Iff.rfl
@[irreducible] def b__law_picture : SF :=
  zSeq (zSet (tgT [tgN 4, tgN 5, tgN 6, tgN 7]) (eVar 0))
  (t__law_picture_6)
@[irreducible] def f__law_picture : Fn := fnOf0 13 kp__law_picture b__law_picture
theorem sat__law_picture {ds : List D} {Q : D → Z.Env → Prop} : sat f__law_picture ds Q ↔ wp b__law_picture (fnEnv 13 ds) (fin (bkO kp__law_picture 0 ds.length) Q) := by
  unfold f__law_picture
  exact sat_fn
theorem nx__law_picture (ds : List D) (e : EX) (bk : Z.Env) : f__law_picture ds ≠ some (.exc e bk) := by
  unfold f__law_picture
  exact fnOf0_nox ds e bk
theorem dv__law_picture {P : Program} {w : World} {K : PySem.W.Frag} {mg : Str → Option Value} {base : Heap} {f : Addr} (hx : Fx w K mg) (C__law_covered : Cal ⟨P, w, K, mg⟩ base CX0 1 "_law_covered" P__law_covered f__law_covered) (cdv : Value) (A : Around) (outer : List PySem.Env) (s : Shared) (H : Hp) (E : XK) (hr : Room 1 (A.deeper (envOfC "_law_picture" (defScope s__law_picture) s.heap.objs.size f cdv))) :
    ZB (cxOf CX0 P w K mg base N__law_picture "_law_picture" (defScope s__law_picture) f cdv A outer s H E).nox W0 kp__law_picture (defBody s__law_picture) b__law_picture := by
  have hu := hu_64 hr
  have hu1 := hu_100 hr
  unfold b__law_picture t__law_picture_6 t__law_picture_5 t__law_picture_4 t__law_picture_3 t__law_picture_2 t__law_picture_1 t__law_picture_0
  exact
  zb_cons (zs_tgt (ze_var (pv 0)) (zg_tup (by rfl) (zgs_cons (zg_name (pg_name sc__law_picture.nd rfl (by first | exact Or.inl rfl | exact Or.inr rfl)) (by decide)) (zgs_cons (zg_name (pg_name sc__law_picture.nd rfl (by first | exact Or.inl rfl | exact Or.inr rfl)) (by decide)) (zgs_cons (zg_name (pg_name sc__law_picture.nd rfl (by first | exact Or.inl rfl | exact Or.inr rfl)) (by decide)) (zgs_cons (zg_name (pg_name sc__law_picture.nd rfl (by first | exact Or.inl rfl | exact Or.inr rfl)) (by decide)) (zgs_nil)))))))
    (zb_cons (zs_set (ps_set sc__law_picture.nd rfl (by first | exact Or.inl rfl | exact Or.inr rfl) (ze_lst (zos_nil) rfl)) (by decide))
    (zb_cons (zs_for PassesOwn.never (by rfl) (zi_revR1 (by rfl) hx.n_reversed (by rfl) hx.n_range (ze_var (pv 5))) (zg_name (pg_name sc__law_picture.nd rfl (by first | exact Or.inl rfl | exact Or.inr rfl)) (by decide)) (zb_cons (zs_set (ps_set sc__law_picture.nd rfl (by first | exact Or.inl rfl | exact Or.inr rfl) (ze_str)) (by decide))
    (zb_cons (zs_for PassesOwn.never (by rfl) (zi_range1 (by rfl) hx.n_range (ze_var (pv 4))) (zg_name (pg_name sc__law_picture.nd rfl (by first | exact Or.inl rfl | exact Or.inr rfl)) (by decide)) (zb_cons (zs_set (ps_set sc__law_picture.nd rfl (by first | exact Or.inl rfl | exact Or.inr rfl) (ze_if (zt_in hu1 (zo_val (ze_tup (zos_cons (zo_val (ze_var (pv 9))) (zos_cons (zo_val (ze_var (pv 3))) (zos_nil))) rfl)) (zo_slot (pv 6)) (by first | rfl | exact nomark _)) (ze_str) (ze_str))) (by decide))
    (zb_cons (zs_for PassesOwn.never (by rfl) (zi_enum (by rfl) (by rfl) hx.n_enumerate (ze_var (pv 1))) (zg_tup (by rfl) (zgs_cons (zg_name (pg_name sc__law_picture.nd rfl (by first | exact Or.inl rfl | exact Or.inr rfl)) (by decide)) (zgs_cons (zg_name (pg_name sc__law_picture.nd rfl (by first | exact Or.inl rfl | exact Or.inr rfl)) (by decide)) (zgs_nil)))) (zb_one (zs_if (zt_in hu1 (zo_val (ze_tup (zos_cons (zo_val (ze_var (pv 9))) (zos_cons (zo_val (ze_var (pv 3))) (zos_nil))) rfl)) (zo_val (ze_call C__law_covered (hr.mono (by decide)) (by rfl) (zos_cons (zo_val (ze_sub hu (zo_slot (pv 7)) (zo_slot (pv 11)))) (zos_cons (zo_slot (pv 12)) (zos_nil))) rfl nx__law_covered)) (by first | rfl | exact nomark _)) (zb_one (zs_set (ps_set sc__law_picture.nd rfl (by first | exact Or.inl rfl | exact Or.inr rfl) (ze_sub hu (zo_val (ze_str)) (zo_slot (pv 11)))) (by decide))) (zb_nil))))
    (zb_one (zs_set (ps_set sc__law_picture.nd rfl (by first | exact Or.inl rfl | exact Or.inr rfl) (ze_add (zo_slot (pv 8)) (zo_slot (pv 10)))) (by decide))))))
    (zb_one (zs_expr (ze_append (pe_pl0 (pv 2)) (ze_var (pv 8)) (Or.inl rfl)))))))
    (zb_one (zs_ret (ze_move (pv 2))))))
theorem cal__law_picture {P : Program} {w : World} {K : PySem.W.Frag} {mg : Str → Option Value} {base : Heap} (hx : Fx w K mg) : Cal ⟨P, w, K, mg⟩ base CX0 2 "_law_picture" P__law_picture f__law_picture := by
  unfold f__law_picture
  obtain ⟨f, fd, F, hm⟩ := hx.m__law_picture
  exact ⟨f, fd, fn_okD F sc__law_picture (dv__law_picture hx (cal__law_covered hx)), hm, F.kp, F.bindsN fun _ _ _ _ _ _ us hl => match us, hl with | [_, _], _ => rfl⟩
/-! _law_text -/
abbrev N__law_text : List Str := ["_law_hall_here", "_law_stand", "_law_rows", "_law_n", "_law_kind_here"]
abbrev P__law_text : List Str := ["_law_hall_here", "_law_stand"]
abbrev kp__law_text : List Nat := [0, 1]
theorem sc__law_text : FnScope N__law_text P__law_text (defScope s__law_text) := ⟨rfl, rfl, rfl, by decide +kernel, rfl, by decide +kernel, by decide +kernel⟩
@[irreducible] def t__law_text_0 : SF :=
  zRet (zMet isStrD gJoin (eC (.at (.str ("\n" : Str)))) [.p 2])
theorem u__law_text_0 {ρ : Z.Env} {Q : Fl → Z.Env → Prop} : wp (t__law_text_0) ρ Q ↔ wp (zRet (zMet isStrD gJoin (eC (.at (.str ("\n" : Str)))) [.p 2])) ρ Q := by
  unfold t__law_text_0
  exact Iff.rfl
@[irreducible] def t__law_text_1 : SF :=
  zSeq (zFor (zEnum (zOps gIx [.p 0, .v (eC (.at (.int 3)))])) (tgT [tgN 3, tgN 4]) (zEx (zMut "list" 2 [] uAppend [zOps gAdd [.v (zOps gAdd [.v (zOps gAdd [.v (zOps gIx [.v (eC (.at (.str ("abcdefghijkl" : Str)))), .p 3]), .v (eC (.at (.str (" " : Str))))]), .v (zOps gIx [.p 4, .v (eC (.at (.int 2)))])]), .v (zOps gIx [.v (zNew (.lst true) [eC (.at (.str ("" : Str))), eC (.at (.str (" strong" : Str))), eC (.at (.str (" dull" : Str)))]), .v (zOps gIx [.p 4, .v (eC (.at (.int 3)))])])]])))
  (t__law_text_0)
theorem u__law_text_1 {ρ : Z.Env} {Q : Fl → Z.Env → Prop} : wp (t__law_text_1) ρ Q ↔ wp (zSeq (zFor (zEnum (zOps gIx [.p 0, .v (eC (.at (.int 3)))])) (tgT [tgN 3, tgN 4]) (zEx (zMut "list" 2 [] uAppend [zOps gAdd [.v (zOps gAdd [.v (zOps gAdd [.v (zOps gIx [.v (eC (.at (.str ("abcdefghijkl" : Str)))), .p 3]), .v (eC (.at (.str (" " : Str))))]), .v (zOps gIx [.p 4, .v (eC (.at (.int 2)))])]), .v (zOps gIx [.v (zNew (.lst true) [eC (.at (.str ("" : Str))), eC (.at (.str (" strong" : Str))), eC (.at (.str (" dull" : Str)))]), .v (zOps gIx [.p 4, .v (eC (.at (.int 3)))])])]])))
  (t__law_text_0)) ρ Q := by
  unfold t__law_text_1
  exact Iff.rfl
@[irreducible] def b__law_text : SF :=
  zSeq (zSet (tgN 2) (zOps gAdd [.v (zNew (.lst true) [eC (.at (.str ("hall" : Str)))]), .v (zCall f__law_picture [.p 0, .p 1])]))
  (t__law_text_1)
@[irreducible] def f__law_text : Fn := fnOf0 5 kp__law_text b__law_text
theorem sat__law_text {ds : List D} {Q : D → Z.Env → Prop} : sat f__law_text ds Q ↔ wp b__law_text (fnEnv 5 ds) (fin (bkO kp__law_text 0 ds.length) Q) := by
  unfold f__law_text
  exact sat_fn
theorem nx__law_text (ds : List D) (e : EX) (bk : Z.Env) : f__law_text ds ≠ some (.exc e bk) := by
  unfold f__law_text
  exact fnOf0_nox ds e bk
theorem dv__law_text {P : Program} {w : World} {K : PySem.W.Frag} {mg : Str → Option Value} {base : Heap} {f : Addr} (hx : Fx w K mg) (C__law_picture : Cal ⟨P, w, K, mg⟩ base CX0 2 "_law_picture" P__law_picture f__law_picture) (cdv : Value) (A : Around) (outer : List PySem.Env) (s : Shared) (H : Hp) (E : XK) (hr : Room 2 (A.deeper (envOfC "_law_text" (defScope s__law_text) s.heap.objs.size f cdv))) :
    ZB (cxOf CX0 P w K mg base N__law_text "_law_text" (defScope s__law_text) f cdv A outer s H E).nox W0 kp__law_text (defBody s__law_text) b__law_text := by
  have hu := hu_64 hr
  have hu1 := hu_100 hr
  unfold b__law_text t__law_text_1 t__law_text_0
  exact
  zb_cons (zs_set (ps_set sc__law_text.nd rfl (by first | exact Or.inl rfl | exact Or.inr rfl) (ze_add (zo_val (ze_lst (zos_cons (zo_val (ze_str)) (zos_nil)) rfl)) (zo_val (ze_call C__law_picture (hr.mono (by decide)) (by rfl) (zos_cons (zo_slot (pv 0)) (zos_cons (zo_slot (pv 1)) (zos_nil))) rfl nx__law_picture)))) (by decide))
    (zb_cons (zs_for PassesOwn.never (by rfl) (zi_enum (by rfl) (by rfl) hx.n_enumerate (ze_sub hu (zo_slot (pv 0)) (zo_val (ze_int)))) (zg_tup (by rfl) (zgs_cons (zg_name (pg_name sc__law_text.nd rfl (by first | exact Or.inl rfl | exact Or.inr rfl)) (by decide)) (zgs_cons (zg_name (pg_name sc__law_text.nd rfl (by first | exact Or.inl rfl | exact Or.inr rfl)) (by decide)) (zgs_nil)))) (zb_one (zs_expr (ze_append (pe_pl0 (pv 2)) (ze_add (zo_val (ze_add (zo_val (ze_add (zo_val (ze_sub hu (zo_val (ze_str)) (zo_slot (pv 3)))) (zo_val (ze_str)))) (zo_val (ze_sub hu (zo_slot (pv 4)) (zo_val (ze_int)))))) (zo_val (ze_sub hu (zo_val (ze_lst (zos_cons (zo_val (ze_str)) (zos_cons (zo_val (ze_str)) (zos_cons (zo_val (ze_str)) (zos_nil)))) rfl)) (zo_val (ze_sub hu (zo_slot (pv 4)) (zo_val (ze_int))))))) (Or.inl rfl)))))
    (zb_one (zs_ret (ze_join (ze_str) (zo_slot (pv 2))))))
theorem cal__law_text {P : Program} {w : World} {K : PySem.W.Frag} {mg : Str → Option Value} {base : Heap} (hx : Fx w K mg) : Cal ⟨P, w, K, mg⟩ base CX0 3 "_law_text" P__law_text f__law_text := by
  unfold f__law_text
  obtain ⟨f, fd, F, hm⟩ := hx.m__law_text
  exact ⟨f, fd, fn_okD F sc__law_text (dv__law_text hx (cal__law_picture hx)), hm, F.kp, F.bindsN fun _ _ _ _ _ _ us hl => match us, hl with | [_, _], _ => rfl⟩
/-! law -/
abbrev N_law : List Str := ["_law_script", "_law_state", "_law_turn", "_law_held", "_law_due", "_law_bare", "_law_hall_here", "_law_stand"]
abbrev P_law : List Str := ["_law_script"]
abbrev kp_law : List Nat := [0]
theorem sc_law : FnScope N_law P_law (defScope s_law) := ⟨rfl, rfl, rfl, by decide +kernel, rfl, by decide +kernel, by decide +kernel⟩
@[irreducible] def t_law_0 : SF :=
  zIfS (tOrF (tNotF (evB (zOps (gR 2 (f__law_same 8)) [.v (zCall f_hall_text [.p 5, .v (zNew .tup [])]), .v (zCall f__law_text [.p 5, .v (zNew .tup [])])]))) (evB (zOps gNeS [.v (zOps (one1 gStr) [.v (zNew (.lst true) [eVar 6, eVar 7])]), .p 3]))) (zRet (eC (.at (.bl false)))) (zNx)
theorem u_law_0 {ρ : Z.Env} {Q : Fl → Z.Env → Prop} : wp (t_law_0) ρ Q ↔ wp (zIfS (tOrF (tNotF (evB (zOps (gR 2 (f__law_same 8)) [.v (zCall f_hall_text [.p 5, .v (zNew .tup [])]), .v (zCall f__law_text [.p 5, .v (zNew .tup [])])]))) (evB (zOps gNeS [.v (zOps (one1 gStr) [.v (zNew (.lst true) [eVar 6, eVar 7])]), .p 3]))) (zRet (eC (.at (.bl false)))) (zNx)) ρ Q := by
  unfold t_law_0
  exact Iff.rfl
@[irreducible] def t_law_1 : SF :=
  zSeq (zSet (tgN 5) (zOps gAdd [.v (zSl (.p 6) none (some (eC (.at (.int 3))))), .v (zNew .tup [zNew .tup []])]))
  (t_law_0)
theorem u_law_1 {ρ : Z.Env} {Q : Fl → Z.Env → Prop} : wp (t_law_1) ρ Q ↔ wp (zSeq (zSet (tgN 5) (zOps gAdd [.v (zSl (.p 6) none (some (eC (.at (.int 3))))), .v (zNew .tup [zNew .tup []])]))
  (t_law_0)) ρ Q := by
  unfold t_law_1
  exact Iff.rfl
@[irreducible] def t_law_2 : SF :=
  zSeq (zIfS (tOrF (tNotF (evB (zOps (gR 2 (f__law_same 8)) [.v (zCall f_hall_text [.p 6, .p 7]), .p 4]))) (tNotF (evB (zOps (gR 2 (f__law_same 8)) [.v (zCall f_hall_text [.p 6, .p 7]), .p 4])))) (zRet (eC (.at (.bl false)))) (zNx))
  (t_law_1)
theorem u_law_2 {ρ : Z.Env} {Q : Fl → Z.Env → Prop} : wp (t_law_2) ρ Q ↔ wp (zSeq (zIfS (tOrF (tNotF (evB (zOps (gR 2 (f__law_same 8)) [.v (zCall f_hall_text [.p 6, .p 7]), .p 4]))) (tNotF (evB (zOps (gR 2 (f__law_same 8)) [.v (zCall f_hall_text [.p 6, .p 7]), .p 4])))) (zRet (eC (.at (.bl false)))) (zNx))
  (t_law_1)) ρ Q := by
  unfold t_law_2
  exact Iff.rfl
@[irreducible] def t_law_3 : SF :=
  zSeq (zSet (tgN 4) (zCall f__law_text [.p 6, .p 7]))
  (t_law_2)
theorem u_law_3 {ρ : Z.Env} {Q : Fl → Z.Env → Prop} : wp (t_law_3) ρ Q ↔ wp (zSeq (zSet (tgN 4) (zCall f__law_text [.p 6, .p 7]))
  (t_law_2)) ρ Q := by
  unfold t_law_3
  exact Iff.rfl
@[irreducible] def t_law_4 : SF :=
  zSeq (zSet (tgN 3) (zOps (one1 gStr) [.v (zNew (.lst true) [eVar 6, eVar 7])]))
  (t_law_3)
theorem u_law_4 {ρ : Z.Env} {Q : Fl → Z.Env → Prop} : wp (t_law_4) ρ Q ↔ wp (zSeq (zSet (tgN 3) (zOps (one1 gStr) [.v (zNew (.lst true) [eVar 6, eVar 7])]))
  (t_law_3)) ρ Q := by
  unfold t_law_4
  exact Iff.rfl
@[irreducible] def t_law_5 : SF :=
  zRet (eC (.at (.bl true)))
theorem u_law_5 {ρ : Z.Env} {Q : Fl → Z.Env → Prop} : wp (t_law_5) ρ Q ↔ wp (zRet (eC (.at (.bl true)))) ρ Q := by
  unfold t_law_5
  exact Iff.rfl
@[irreducible] def t_law_6 : SF :=
  zSeq (zFor (zRng1 (eC (.at (.int 2)))) (tgN 2) (zSeq (zSet (tgT [tgN 6, tgN 7]) (zCall f__law_hall [.p 1, .v (zOps gEq [.v (zCall f__law_take [.p 1, .v (eC (.at (.int 6)))]), .v (eC (.at (.int 0)))]), .v (zOps gPow [.v (eC (.at (.int 10))), .v (eC (.at (.int 9)))])]))
  (t_law_4)))
  (t_law_5)
theorem u_law_6 {ρ : Z.Env} {Q : Fl → Z.Env → Prop} : wp (t_law_6) ρ Q ↔ wp (zSeq (zFor (zRng1 (eC (.at (.int 2)))) (tgN 2) (zSeq (zSet (tgT [tgN 6, tgN 7]) (zCall f__law_hall [.p 1, .v (zOps gEq [.v (zCall f__law_take [.p 1, .v (eC (.at (.int 6)))]), .v (eC (.at (.int 0)))]), .v (zOps gPow [.v (eC (.at (.int 10))), .v (eC (.at (.int 9)))])]))
  (t_law_4)))
  (t_law_5)) ρ Q := by
  unfold t_law_6
  exact Iff.rfl
@[irreducible] def b_law : SF :=
  zSeq (zSet (tgN 1) (zCall f__law_begin [.p 0]))
  (t_law_6)
@[irreducible] def f_law : Fn := fnOf0 8 kp_law b_law
theorem sat_law {ds : List D} {Q : D → Z.Env → Prop} : sat f_law ds Q ↔ wp b_law (fnEnv 8 ds) (fin (bkO kp_law 0 ds.length) Q) := by
  unfold f_law
  exact sat_fn
theorem dv_law {P : Program} {w : World} {K : PySem.W.Frag} {mg : Str → Option Value} {base : Heap} {f : Addr} (hx : Fx w K mg) (C__law_begin : Cal ⟨P, w, K, mg⟩ base CX0 1 "_law_begin" P__law_begin f__law_begin) (C__law_hall : Cal ⟨P, w, K, mg⟩ base CX0 3 "_law_hall" P__law_hall f__law_hall) (C__law_text : Cal ⟨P, w, K, mg⟩ base CX0 3 "_law_text" P__law_text f__law_text) (C__law_take : Cal ⟨P, w, K, mg⟩ base CX0 1 "_law_take" P__law_take f__law_take) (C__law_same : Cal ⟨P, w, K, mg⟩ base CX0 9 "_law_same" P__law_same (f__law_same 8)) (C_hall_text : Cal ⟨P, w, K, mg⟩ base CX0 3 "hall_text" P_hall_text f_hall_text) (cdv : Value) (A : Around) (outer : List PySem.Env) (s : Shared) (H : Hp) (E : XK) (hr : Room 9 (A.deeper (envOfC "law" (defScope s_law) s.heap.objs.size f cdv))) (hgd : A.guards = some []) :
    ZB (cxOf CX0 P w K mg base N_law "law" (defScope s_law) f cdv A outer s H E).nox W0 kp_law (defBody s_law) b_law := by
  have hu := hu_64 hr
  have hu1 := hu_100 hr
  unfold b_law t_law_6 t_law_5 t_law_4 t_law_3 t_law_2 t_law_1 t_law_0
  exact
  zb_cons (zs_set (ps_set sc_law.nd rfl (by first | exact Or.inl rfl | exact Or.inr rfl) (ze_call C__law_begin (hr.mono (by decide)) (by rfl) (zos_cons (zo_slot (pv 0)) (zos_nil)) rfl nx__law_begin)) (by decide))
    (zb_cons (zs_for PassesOwn.never (by rfl) (zi_range1 (by rfl) hx.n_range (ze_int)) (zg_name (pg_name sc_law.nd rfl (by first | exact Or.inl rfl | exact Or.inr rfl)) (by decide)) (zb_cons (zs_tgt (ze_call C__law_hall (hr.mono (by decide)) (by rfl) (zos_cons (zo_slot (pv 1)) (zos_cons (zo_val (ze_eq hu (zo_val (ze_call C__law_take (hr.mono (by decide)) (by rfl) (zos_cons (zo_slot (pv 1)) (zos_cons (zo_val (ze_int)) (zos_nil))) rfl nx__law_take)) (zo_val (ze_int)))) (zos_cons (zo_val (ze_pow (zo_val (ze_int)) (zo_val (ze_int)))) (zos_nil)))) rfl nx__law_hall) (zg_tup (by rfl) (zgs_cons (zg_name (pg_name sc_law.nd rfl (by first | exact Or.inl rfl | exact Or.inr rfl)) (by decide)) (zgs_cons (zg_name (pg_name sc_law.nd rfl (by first | exact Or.inl rfl | exact Or.inr rfl)) (by decide)) (zgs_nil)))))
    (zb_cons (zs_set (ps_set sc_law.nd rfl (by first | exact Or.inl rfl | exact Or.inr rfl) (ze_strOf hgd hu (by rfl) hx.n_str (zo_val (ze_lst (zos_cons (zo_val (ze_var (pv 6))) (zos_cons (zo_val (ze_var (pv 7))) (zos_nil))) rfl)))) (by decide))
    (zb_cons (zs_set (ps_set sc_law.nd rfl (by first | exact Or.inl rfl | exact Or.inr rfl) (ze_call C__law_text (hr.mono (by decide)) (by rfl) (zos_cons (zo_slot (pv 6)) (zos_cons (zo_slot (pv 7)) (zos_nil))) rfl nx__law_text)) (by decide))
    (zb_cons (zs_if (zt_w (zw_or (zt_not (zt_val (ze_callR C__law_same (hr.mono (by decide)) (by rfl) (zos_cons (zo_val (ze_call C_hall_text (hr.mono (by decide)) (by rfl) (zos_cons (zo_slot (pv 6)) (zos_cons (zo_slot (pv 7)) (zos_nil))) rfl nx_hall_text)) (zos_cons (zo_slot (pv 4)) (zos_nil))) rfl))) (zw_or1 (zt_not (zt_val (ze_callR C__law_same (hr.mono (by decide)) (by rfl) (zos_cons (zo_val (ze_call C_hall_text (hr.mono (by decide)) (by rfl) (zos_cons (zo_slot (pv 6)) (zos_cons (zo_slot (pv 7)) (zos_nil))) rfl nx_hall_text)) (zos_cons (zo_slot (pv 4)) (zos_nil))) rfl)))))) (zb_one (zs_ret (ze_bl))) (zb_nil))
    (zb_cons (zs_set (ps_set sc_law.nd rfl (by first | exact Or.inl rfl | exact Or.inr rfl) (ze_add (zo_val (ze_sl (zo_slot (pv 6)) (zp_none) (zp_some (ze_int)))) (zo_val (ze_tup (zos_cons (zo_val (ze_tup (zos_nil) rfl)) (zos_nil)) rfl)))) (by decide))
    (zb_one (zs_if (zt_w (zw_or (zt_not (zt_val (ze_callR C__law_same (hr.mono (by decide)) (by rfl) (zos_cons (zo_val (ze_call C_hall_text (hr.mono (by decide)) (by rfl) (zos_cons (zo_slot (pv 5)) (zos_cons (zo_val (ze_tup (zos_nil) rfl)) (zos_nil))) rfl nx_hall_text)) (zos_cons (zo_val (ze_call C__law_text (hr.mono (by decide)) (by rfl) (zos_cons (zo_slot (pv 5)) (zos_cons (zo_val (ze_tup (zos_nil) rfl)) (zos_nil))) rfl nx__law_text)) (zos_nil))) rfl))) (zw_or1 (zt_neS  (zo_val (ze_strOf hgd hu (by rfl) hx.n_str (zo_val (ze_lst (zos_cons (zo_val (ze_var (pv 6))) (zos_cons (zo_val (ze_var (pv 7))) (zos_nil))) rfl)))) (zo_slot (pv 3)))))) (zb_one (zs_ret (ze_bl))) (zb_nil)))))))))
    (zb_one (zs_ret (ze_bl))))
end
end HT

namespace HT
open PySem Z
set_option maxHeartbeats 4000000
local macro_rules
  | `(tactic| walk_at "ztail") => `(tactic| first
    | ((with_reducible show wp _ _ _); with_reducible first
      | refine u_covered_0.mpr ?_
      | refine u_covered_1.mpr ?_
      | refine u_picture_of_0.mpr ?_
      | refine u_picture_of_1.mpr ?_
      | refine u_picture_of_2.mpr ?_
      | refine u_picture_of_3.mpr ?_
      | refine u_picture_of_4.mpr ?_
      | refine u__law_begin_0.mpr ?_
      | refine u__law_begin_1.mpr ?_
      | refine u__law_take_0.mpr ?_
      | refine u__law_take_1.mpr ?_
      | refine u__law_take_2.mpr ?_
      | refine u__law_take_3.mpr ?_
      | refine u__law_take_4.mpr ?_
      | refine u__law_take_5.mpr ?_
      | refine u__law_take_6.mpr ?_
      | refine u__law_take_7.mpr ?_
      | refine u__law_same_0.mpr ?_
      | refine u__law_same_1.mpr ?_
      | refine u__law_same_2.mpr ?_
      | refine u__law_same_3.mpr ?_
      | refine u__law_same_4.mpr ?_
      | refine u__law_same_5.mpr ?_
      | refine u__law_same_6.mpr ?_
      | refine u__law_covered_0.mpr ?_
      | refine u__law_covered_1.mpr ?_
      | refine u__law_room_of_0.mpr ?_
      | refine u__law_sized_0.mpr ?_
      | refine u__law_sized_1.mpr ?_
      | refine u__law_sized_2.mpr ?_
      | refine u__law_sized_3.mpr ?_
      | refine u__law_kind_0.mpr ?_
      | refine u__law_kind_1.mpr ?_
      | refine u__law_kind_2.mpr ?_
      | refine u__law_kind_3.mpr ?_
      | refine u__law_kind_4.mpr ?_
      | refine u__law_kind_5.mpr ?_
      | refine u__law_kind_6.mpr ?_
      | refine u__law_kind_7.mpr ?_
      | refine u__law_kind_8.mpr ?_
      | refine u__law_kind_9.mpr ?_
      | refine u__law_hall_0.mpr ?_
      | refine u__law_hall_1.mpr ?_
      | refine u__law_hall_2.mpr ?_
      | refine u__law_hall_3.mpr ?_
      | refine u__law_hall_4.mpr ?_
      | refine u__law_hall_5.mpr ?_
      | refine u__law_hall_6.mpr ?_
      | refine u__law_hall_7.mpr ?_
      | refine u__law_hall_8.mpr ?_
      | refine u__law_hall_9.mpr ?_
      | refine u__law_hall_10.mpr ?_
      | refine u__law_hall_11.mpr ?_
      | refine u__law_hall_12.mpr ?_
      | refine u__law_hall_13.mpr ?_
      | refine u__law_hall_14.mpr ?_
      | refine u__law_picture_0.mpr ?_
      | refine u__law_picture_1.mpr ?_
      | refine u__law_picture_2.mpr ?_
      | refine u__law_picture_3.mpr ?_
      | refine u__law_picture_4.mpr ?_
      | refine u__law_picture_5.mpr ?_
      | refine u__law_picture_6.mpr ?_
      | refine u__law_text_0.mpr ?_
      | refine u__law_text_1.mpr ?_
      | refine u_law_0.mpr ?_
      | refine u_law_1.mpr ?_
      | refine u_law_2.mpr ?_
      | refine u_law_3.mpr ?_
      | refine u_law_4.mpr ?_
      | refine u_law_5.mpr ?_
      | refine u_law_6.mpr ?_))
local macro_rules
  | `(tactic| walk_at "zisi") => `(tactic| with_reducible first
    | exact isi_non_dict
    | exact isi_bl_dict
    | exact isi_int_dict
    | exact isi_str_dict
    | exact isi_tup_dict
    | exact isi_lst_dict
    | exact isi_dk_dict
    | exact isi_non_list
    | exact isi_bl_list
    | exact isi_int_list
    | exact isi_str_list
    | exact isi_tup_list
    | exact isi_lst_list
    | exact isi_dk_list
    | exact isi_non_tuple
    | exact isi_bl_tuple
    | exact isi_int_tuple
    | exact isi_str_tuple
    | exact isi_tup_tuple
    | exact isi_lst_tuple
    | exact isi_dk_tuple
    | exact isi_non_str
    | exact isi_bl_str
    | exact isi_int_str
    | exact isi_str_str
    | exact isi_tup_str
    | exact isi_lst_str
    | exact isi_dk_str
    | exact isi_non_int
    | exact isi_bl_int
    | exact isi_int_int
    | exact isi_str_int
    | exact isi_tup_int
    | exact isi_lst_int
    | exact isi_dk_int
    | exact isi_non_bool
    | exact isi_bl_bool
    | exact isi_int_bool
    | exact isi_str_bool
    | exact isi_tup_bool
    | exact isi_lst_bool
    | exact isi_dk_bool)
local macro_rules
  | `(tactic| walk_at "zside") => `(tactic| first | assumption | rfl | omega | decide | (simp; done))
local macro_rules
  | `(tactic| walk_at "zset") => `(tactic| repeat first
    | (with_reducible first | exact set_0 | exact set_1 | exact set_2 | exact set_3 | exact set_4 | exact set_5 | exact set_6 | exact set_7 | exact set_8 | exact set_9 | exact set_10 | exact set_11 | exact set_12 | exact set_13 | exact set_14 | exact set_15 | exact set_16 | exact set_17 | exact set_18 | exact set_19 | exact lend_nil | exact give_nil | apply lend_inl | apply give_inl | apply give_no | apply give_inr)
    | ((with_reducible apply lend_inr); next => with_unfolding_all exact rfl)
    | with_unfolding_all exact rfl)
local macro_rules
  | `(tactic| walk_at "zr") => `(tactic| exact rfl)
local macro_rules
  | `(tactic| walk_at "zop") => `(tactic| first
    | with_reducible refine zop_pc (by with_unfolding_all exact rfl) ?_
    | with_reducible refine zop_vc ?_
    | with_reducible refine zop_pp (by with_unfolding_all exact rfl) (by with_unfolding_all exact rfl) ?_
    | with_reducible refine zop_pv (by with_unfolding_all exact rfl) ?_
    | with_reducible refine zop_cv ?_
    | with_reducible refine zop_cp (by with_unfolding_all exact rfl) ?_
    | with_reducible refine zop_vp ?_
    | with_reducible refine zop_vv ?_
    | with_reducible refine zop_p (by with_unfolding_all exact rfl) ?_
    | with_reducible refine zop_c ?_
    | with_reducible refine zop_v ?_
    | with_reducible refine wp_zOps.mpr ?_)
local macro_rules
  | `(tactic| walk_at "zvar") => `(tactic| first
    | with_reducible refine var_at (by with_unfolding_all exact rfl) ?_
    | with_reducible refine var_pure (by with_unfolding_all exact rfl) (by first | assumption | with_unfolding_all rfl) ?_
    | with_reducible refine var_frzP (by with_unfolding_all exact rfl) (by first | assumption | with_unfolding_all rfl) (by walk_at "zset") ?_
    | with_reducible refine var_frzT (by with_unfolding_all exact rfl) (by walk_at "zset") ?_
    | with_reducible refine var_frzL (by with_unfolding_all exact rfl) (by walk_at "zset") ?_)
local macro_rules
  | `(tactic| walk_at "zwp") => `(tactic| first
    | with_reducible refine wp_eC.mpr ?_
    | ((with_reducible show wp (zOps _ _) _ _); walk_at "zop")
    | ((with_reducible show wp (eVar _) _ _); walk_at "zvar")
    | (with_reducible first
      | refine wp_zSeq.mpr ?_
      | refine wp_zSet.mpr ?_
      | refine wp_evB.mpr ?_
      | refine wp_zIfS.mpr ?_
      | refine wp_zRet.mpr ?_
      | refine wp_zNew.mpr ?_
      | refine wp_evL.mpr ?_
      | refine wp_evL_nil.mpr ?_
      | refine wp_zCallG.mpr ?_
      | refine wp_evO_v.mpr ?_
      | refine wp_evO_nil.mpr ?_
      | refine wp_evO_p.mpr ?_
      | refine wp_zEx.mpr ?_
      | refine wp_zNx.mpr ?_
      | refine wp_tNot.mpr ?_
      | refine wp_tOr.mpr ?_
      | refine wp_tAnd.mpr ?_
      | refine wp_evI.mpr ?_
      | refine wp_zPar2.mpr ?_
      | refine wp_zPar3.mpr ?_
      | refine wp_zDisp.mpr ?_
      | refine wp_zDispK.mpr ?_
      | refine wp_zDisp1.mpr ?_
      | refine wp_zDispO.mpr ?_
      | refine wp_zTupRev.mpr ?_
      | refine wp_zAnd.mpr ?_
      | refine wp_zOr.mpr ?_
      | refine wp_zNot.mpr ?_
      | refine wp_zIf.mpr ?_
      | refine wp_zChain.mpr ?_
      | refine wp_evP_none.mpr ?_
      | refine wp_evP_some.mpr ?_
      | refine wp_zSl.mpr ?_
      | refine wp_zRng1.mpr ?_
      | refine wp_zRng2.mpr ?_
      | refine wp_zRevR1.mpr ?_
      | refine wp_zRevR2.mpr ?_
      | refine wp_zZip.mpr ?_
      | refine wp_zZipM.mpr ?_
      | refine wp_zZip3.mpr ?_
      | refine wp_zDnI.mpr ?_
      | refine wp_zFor.mpr ?_
      | refine wp_zLc.mpr ?_
      | refine wp_zPl1.mpr ?_
      | refine wp_zMut.mpr ?_
      | refine wp_zMutN.mpr ?_
      | refine wp_zFrz.mpr ?_
      | refine wp_okI.mpr ?_
      | refine wp_forL_nil.mpr ?_
      | refine wp_evTn.mpr ?_
      | refine wp_evTs.mpr ?_)
    | with_reducible refine wp_zAugT (by with_unfolding_all exact rfl) ?_
    | with_reducible refine wk_var (by with_unfolding_all exact rfl) (by first | assumption | with_unfolding_all rfl) ?_
    | with_reducible refine wk_varT (by with_unfolding_all exact rfl) (by first | assumption | with_unfolding_all rfl) ?_
    | with_reducible refine wk_at (by with_unfolding_all exact rfl) ?_
    | with_reducible refine idxT_var (by with_unfolding_all exact rfl) (by first | assumption | with_unfolding_all rfl) ?_
    | with_reducible refine wp_zMutQ (by with_unfolding_all exact rfl) ?_
    | with_reducible refine wp_zP1.mpr ?_
    | with_reducible refine wp_zMet ?_
    | with_reducible refine wp_zSetFP.mpr ?_
    | with_reducible refine wp_zPIn.mpr ?_
    | with_reducible refine wp_zPIx_of (by with_unfolding_all exact rfl) (by with_unfolding_all exact rfl) ?_
    | with_reducible refine wp_zPSd.mpr ⟨by with_unfolding_all exact rfl, ?_⟩
    | with_reducible refine wp_zPPop.mpr ⟨by with_unfolding_all exact rfl, ?_⟩
    | with_reducible refine wp_zMeth.mpr ⟨by with_unfolding_all exact rfl, ?_⟩
    | (with_reducible first | refine wp_zListP ?_ | refine wp_zTupP ?_ | refine wp_zEnumP ?_)
    | with_reducible refine move_of (by with_unfolding_all exact rfl) (by walk_at "zset") ?_
    | with_reducible refine plIx_of (by with_unfolding_all exact rfl) (by exact st_cells) ?_)
local macro_rules
  | `(tactic| walk_at "zo") => `(tactic| first
    | (with_reducible first | refine o_add ?_ | refine o_eqI ?_ | refine o_sub ?_ | refine o_lt ?_ | refine o_le ?_ | refine o_gt ?_ | refine o_ge ?_ | refine o_neI ?_ | refine o_minM ?_ | refine o_maxM ?_ | refine o_lenM ?_ | refine o_lenMT ?_)
    | ((with_reducible refine o_mul ?h1 ?h2); (case h1 => walk_at "zside"))
    | ((with_reducible refine o_mod ?h1 ?h2); (case h1 => walk_at "zside"))
    | ((with_reducible refine o_div ?h1 ?h2); (case h1 => walk_at "zside"))
    | ((with_reducible refine o_divmod ?h1 ?h2); (case h1 => walk_at "zside"))
    | with_reducible refine o_isi (by walk_at "zisi") ?_
    | with_reducible refine o_ixI (by assumption) (by first | assumption | with_unfolding_all rfl) ?_
    | with_reducible refine o_ixT (by assumption) (by first | assumption | with_unfolding_all rfl) ?_)
local macro_rules
  | `(tactic| walk_at "zopt") => `(tactic| first
    | (with_reducible first | refine o_inS ?_ | refine o_notinS ?_ | refine o_inS2 ?_ | refine o_notinS2 ?_ | refine o_inD ?_ | refine o_notinD ?_ | refine o_callR rfl ?_ | refine o_callN rfl ?_ | refine opt_asSeqT ?_ | refine opt_asSeqL ?_)
    | (with_reducible first | refine opt_asBl ?_ | refine opt_asInt ?_ | refine opt_asLst ?_ | refine opt_asTup ?_ | refine opt_tgL.mpr ?_ | refine opt_tgN ?_ | refine opt_twoL ?_ | refine opt_twoT ?_ | refine opt_twoM ?_ | refine opt_asDn ?_)
    | walk_at "zo"
    | with_reducible refine opt_fill (by with_unfolding_all exact rfl) ?_
    | ((with_reducible refine mut_of (by with_unfolding_all exact rfl) (by first | exact st_put | assumption) (by walk_at "zset") ?_); dsimp only)
    | ((with_reducible refine mutQ_of (by with_unfolding_all exact rfl) (by first | assumption | with_unfolding_all exact rfl) (by walk_at "zset") ?_); dsimp only)
    | ((with_reducible refine app_of (by with_unfolding_all exact rfl) (by first | assumption | with_unfolding_all exact Nat.lt_of_lt_of_le (Nat.lt_succ_self _) (size_1000 (Nat.le_of_ble_eq_true rfl))) (by walk_at "zset") ?_); dsimp only)
    | ((with_reducible refine p1_of (by with_unfolding_all exact rfl) (by with_unfolding_all exact rfl) ?_); try dsimp only)
    | with_reducible refine o_pureD (by first | assumption | with_unfolding_all exact rfl) ?_
    | with_reducible refine plRd_of (by with_unfolding_all exact rfl) (by exact st_cells) ?_
    | with_reducible refine o_tupN (by first | assumption | with_unfolding_all rfl) ?_
    | with_reducible refine o_slS ?_
    | with_reducible refine o_listOf (by first | assumption | with_unfolding_all rfl) ?_
    | with_reducible refine o_tupL (by first | assumption | with_unfolding_all rfl) ?_
    | with_reducible refine o_tupT (by first | assumption | with_unfolding_all rfl) ?_
    | with_reducible refine o_listT (by first | assumption | with_unfolding_all rfl) ?_
    | with_reducible refine opt_g (by with_unfolding_all exact rfl) ?_)
local macro_rules
  | `(tactic| walk_at "zwx") => `(tactic| with_reducible first
    | refine wpx_zSeqX ?_ | refine wpx_zIfS ?_ | refine wpx_zFor ?_ | refine wpx_zSet ?_ | refine wpx_zRet ?_ | refine wpx_zEx ?_ | refine wpx_zRaise ?_ | refine wpx_raise0 ?_
    | refine wpx_of (wp_zNx.mpr ?_) | refine wpx_of (f := eVar _) ?_ | refine wpx_of (f := eC _) ?_ | refine wpx_of (f := zOps _ _) ?_ | refine wpx_of (f := zNew _ _) ?_)
local macro_rules
  | `(tactic| walk_at "z1") => `(tactic| first
    | ((with_reducible show wp _ _ _); walk_at "zwp")
    | ((with_reducible show wpx _ _ _ _); walk_at "zwx")
    | ((with_reducible show opt _ _); walk_at "zopt")
    | (with_reducible first | refine nxtx_nx.mpr ?_ | refine nxtx_rt.mpr ?_ | refine nxt_nx.mpr ?_ | refine nxt_rt.mpr ?_ | refine nxt_bk.mpr ?_ | refine nxt_ct.mpr ?_ | refine tgp_tgT.mpr ?_ | refine tgp_tgLs.mpr ?_ | refine fin_rt.mpr ?_ | refine fin_nx.mpr ?_ | refine lop_nx.mpr ?_ | refine lop_ct.mpr ?_ | refine lop_bk.mpr ?_ | refine lop_rt.mpr ?_ | refine lopI_nx.mpr ?_ | refine lopI_ct.mpr ?_ | refine lopI_bk.mpr ?_ | refine lopI_rt.mpr ?_ | refine br_t.mpr ?_ | refine br_f.mpr ?_)
    | with_reducible refine got_of (by with_unfolding_all exact rfl) ?_
    | with_reducible refine tgN_of' (by with_unfolding_all exact Nat.le_of_ble_eq_true rfl) (by walk_at "zset") ?_
    | with_reducible refine sub_of (by with_unfolding_all exact rfl) (by with_unfolding_all exact rfl) ?_
    | with_reducible refine setFP_of (by with_unfolding_all exact rfl) (by with_unfolding_all exact rfl) (by with_unfolding_all exact Nat.le_of_ble_eq_true rfl) (by walk_at "zset") ?_
    | with_reducible refine tgP_of (by with_unfolding_all exact rfl) (by with_unfolding_all exact rfl) ?_
    | with_reducible refine callG_of (by walk_at "zset") ?_
    | with_reducible refine callX_of (by walk_at "zset") ?_
    | with_reducible refine give_of (by walk_at "zset") ?_
    | with_reducible refine len_ok (by with_unfolding_all exact rfl) ?_
    | with_reducible refine and_len (by with_unfolding_all exact rfl) ?_
    | ((with_reducible refine and_size ?h1 ?h2 ?h3); (case h1 => first | assumption | omega | (simp; omega)); case h2 => rfl)
    | ((with_reducible refine and_r62 ?h1 ?h2); case h1 => omega)
    | ((with_reducible refine and_r622 ?h1 ?h2 ?h3); (case h1 => omega); case h2 => omega)
    | ((with_reducible refine and_ty ?h1 ?h2); case h1 => first | assumption | rfl | (simp only [pureL, D.pure, Kd.own, Bool.not_false, Bool.and_true, Bool.true_and, *]; done))
    | with_reducible refine brF (by with_unfolding_all exact rfl) ?_
    | with_reducible refine brT (by with_unfolding_all exact rfl) ?_)
local macro_rules
  | `(tactic| walk_at "y") => `(tactic| repeat walk_at "z1")
local macro_rules
  | `(tactic| walk_at "z") => `(tactic| repeat first | walk_at "z1" | walk_at "ztail")
abbrev colN (p : Cell) (h : Int) (i : Nat) (n : Nat) : List Cell := (List.range n).map fun (j : Nat) => (p.1 + (i : Int), p.2 + (j : Int))
theorem colN_succ {p : Cell} {h : Int} {i n : Nat} : colN p h i (n + 1) = colN p h i n ++ [(p.1 + (i : Int), p.2 + (n : Int))] := by
  show (List.range (n + 1)).map _ = _
  rw [List.range_succ, List.map_append]
  rfl
theorem cols_len {p : Cell} {h : Int} : ∀ n : Nat, ((List.range n).flatMap fun (i : Nat) => colN p h i h.toNat).length = n * h.toNat
  | 0 => by simp
  | n + 1 => by
    rw [List.range_succ, List.flatMap_append, List.length_append, cols_len n]
    simp [Nat.succ_mul]
theorem cols_succ {p : Cell} {h : Int} {n : Nat} : ((List.range (n + 1)).flatMap fun (i : Nat) => colN p h i h.toNat) = ((List.range n).flatMap fun (i : Nat) => colN p h i h.toNat) ++ colN p h n h.toNat := by
  rw [List.range_succ, List.flatMap_append]
  simp
section
variable {w h : Int} {shuts : List Cell} {k : TKind}
/-- the least of some cells -/
def Lst (S : Cell → Prop) (m : Cell) : Prop := S m ∧ ∀ y, S y → ¬ ltC y m
end
section
variable {w h : Int} {shuts : List Cell} {k : TKind}
open Classical in
noncomputable def lst (S : Cell → Prop) : Cell := Classical.epsilon (Lst S)
end
theorem lcov_ok {k : TKind} {p : Cell} (hw : 0 ≤ k.w ∧ k.w ≤ 100) (hh : 0 ≤ k.h ∧ k.h ≤ 100) {Q : D → Z.Env → Prop} (q : Q (.nd (.lst true) ((cov k.w k.h p).map cellD)) [some (kindD k), some (cellD p)]) : sat f__law_covered [kindD k, cellD p] Q := by
  refine sat__law_covered.mpr ?_
  show wp b__law_covered [some (kindD k), some (cellD p), none, none, none] _
  unfold b__law_covered
  walk_at "z"
  refine wp_for_inv (I := fun i ρ => ∃ (x3 x4 : Option D), ρ = [some (kindD k), some (cellD p), some (.nd (.lst true) (((List.range i).flatMap fun (i : Nat) => colN p k.h i k.h.toNat).map cellD)), x3, x4]) ⟨_, _, rfl⟩ ?_ ?_
  · rintro i x ρ hx ⟨x3, x4, rfl⟩
    obtain ⟨rfl, hi⟩ := rangeD_get hx
    walk_at "z"
    refine wp_lc_inv (I := fun j acc ρ => ρ = [some (kindD k), some (cellD p), some (.nd (.lst true) (((List.range i).flatMap fun (i : Nat) => colN p k.h i k.h.toNat).map cellD)), some (inD (0 + (i : Int))), none] ∧ acc = (colN p k.h i j).map cellD) ⟨rfl, rfl⟩ ?_ ?_
    · rintro j y acc ρ hy ⟨rfl, rfl⟩ hl
      obtain ⟨rfl, hj⟩ := rangeD_get hy
      have hlen : ((colN p k.h i j).map cellD).length ≤ 1000000 := by
        rw [List.length_map, List.length_map, List.length_range]
        omega
      walk_at "z"
      refine ⟨rfl, ?_⟩
      rw [colN_succ, List.map_append, Int.zero_add, Int.zero_add]
      rfl
    · rintro acc ρ ⟨hρ, rfl⟩
      rw [hρ, rangeD_len]
      walk_at "z"
      refine ext_of rfl (pure_cells _) ?_ (by walk_at "zset") ?_
      · rw [List.length_map, List.length_map, cols_len, List.length_map, List.length_range]
        have h1 : i ≤ 100 := by omega
        have h2 : k.h.toNat ≤ 100 := by omega
        have h3 : i * k.h.toNat ≤ 100 * 100 := Nat.mul_le_mul h1 h2
        have h4 : (k.h - 0).toNat ≤ 100 := by omega
        exact Nat.le_of_lt (size_m (by omega))
      · dsimp only
        walk_at "z"
        refine ⟨some (inD (0 + (i : Int))), none, ?_⟩
        rw [cols_succ, List.map_append, show (k.h - 0).toNat = k.h.toNat by omega]
  · rintro ρ ⟨x3, x4, rfl⟩
    rw [rangeD_len, show (k.w - 0).toNat = k.w.toNat by omega]
    walk_at "z"
    exact q
theorem take_ok {cells : List Int} {t n : Int} (hc : cells ≠ []) (ht : 0 ≤ t) (ht2 : t < 1000000000000) (hn : 0 < n) (hn2 : n < 1073741824) {Q : D → Z.Env → Prop}
    (k : ∀ (cells' : List Int) (r : Int), cells' ≠ [] → 0 ≤ r → r < n → Q (.at (.int r)) [some (stD cells' (t + 1)), some (.at (.int n))]) : sat f__law_take [stD cells t, .at (.int n)] Q := by
  refine sat__law_take.mpr ?_
  show wp b__law_take [some (stD cells t), some (.at (.int n)), none, none, none, none, none] _
  unfold b__law_take
  have hl : 0 < (cells.length : Int) := by
    have := List.length_pos_iff.mpr hc
    omega
  have h0 : 0 ≤ (t + 1) % (cells.length : Int) := Int.emod_nonneg _ (by omega)
  have h1 : (t + 1) % (cells.length : Int) < (cells.length : Int) := Int.emod_lt_of_pos _ hl
  have h2 : (t + 1) % (cells.length : Int) < cells.length := h1
  obtain ⟨c, hci⟩ := atI_cells (cells := cells) (j := (t + 1) % (cells.length : Int)) h0 h2
  have hp := st_cell (t := t + 1) (v := c / n) h0 h2
  walk_at "z"
  refine br_dec (fun h => ?_) (fun h => ?_)
  · walk_at "z"
    exact k _ _ (set_ne_nil hc) (Int.emod_nonneg _ (by omega)) (Int.emod_lt_of_pos _ hn)
  · walk_at "z"
    exact k _ _ hc (Int.emod_nonneg _ (by omega)) (Int.emod_lt_of_pos _ hn)
theorem sized_ok {cells : List Int} {t : Int} {b : Bool} (hc : cells ≠ []) (ht : 0 ≤ t) (ht2 : t < 1000000000) {Q : D → Z.Env → Prop}
    (k : ∀ (c : List Int) (t' w h : Int), c ≠ [] → t ≤ t' → t' ≤ t + 3 → 1 ≤ w → w ≤ 9 → 1 ≤ h → h ≤ 9 → (b = true → 5 ≤ w ∧ 4 ≤ h) → Q (.nd .tup [inD w, inD h]) [some (stD c t'), some (.at (.bl b))]) : sat f__law_sized [stD cells t, .at (.bl b)] Q := by
  refine sat__law_sized.mpr ?_
  show wp b__law_sized [some (stD cells t), some (.at (.bl b)), none] _
  unfold b__law_sized
  walk_at "z"
  refine br_intro (fun hb => ?_) (fun hb => ?_)
  · walk_at "z"
    refine take_ok hc (by omega) (by omega) (by decide) (by decide) fun c1 r1 hc1 h1 h1' => ?_
    walk_at "z"
    refine take_ok hc1 (by omega) (by omega) (by decide) (by decide) fun c2 r2 hc2 h2 h2' => ?_
    walk_at "z"
    exact k _ _ _ _ hc2 (by omega) (by omega) (by omega) (by omega) (by omega) (by omega) (fun _ => by omega)
  · subst hb
    walk_at "z"
    refine take_ok hc (by omega) (by omega) (by decide) (by decide) fun c1 r1 hc1 h1 h1' => ?_
    walk_at "z"
    refine br_dec (fun _ => ?_) (fun _ => ?_)
    · walk_at "z"
      refine take_ok hc1 (by omega) (by omega) (by decide) (by decide) fun c2 r2 hc2 h2 h2' => ?_
      walk_at "z"
      refine take_ok hc2 (by omega) (by omega) (by decide) (by decide) fun c3 r3 hc3 h3 h3' => ?_
      walk_at "z"
      exact k _ _ _ _ hc3 (by omega) (by omega) (by omega) (by omega) (by omega) (by omega) (fun h => nomatch h)
    · walk_at "z"
      refine br_dec (fun _ => ?_) (fun _ => ?_)
      · walk_at "z"
        refine take_ok hc1 (by omega) (by omega) (by decide) (by decide) fun c2 r2 hc2 h2 h2' => ?_
        walk_at "z"
        refine take_ok hc2 (by omega) (by omega) (by decide) (by decide) fun c3 r3 hc3 h3 h3' => ?_
        walk_at "z"
        exact k _ _ _ _ hc3 (by omega) (by omega) (by omega) (by omega) (by omega) (by omega) (fun h => nomatch h)
      · walk_at "z"
        refine take_ok hc1 (by omega) (by omega) (by decide) (by decide) fun c2 r2 hc2 h2 h2' => ?_
        walk_at "z"
        refine take_ok hc2 (by omega) (by omega) (by decide) (by decide) fun c3 r3 hc3 h3 h3' => ?_
        walk_at "z"
        exact k _ _ _ _ hc3 (by omega) (by omega) (by omega) (by omega) (by omega) (by omega) (fun h => nomatch h)
theorem room_ok {w h : Int} {kd : TKind} (h1 : 1 ≤ kd.w) (h2 : kd.w ≤ w) (h3 : w ≤ 9) (h4 : 1 ≤ kd.h) (h5 : kd.h ≤ h) (h6 : h ≤ 9) (hy : Way kd.way) {Q : D → Z.Env → Prop}
    (q : ∀ r : Int, 1 ≤ r → r ≤ 81 → Q (inD r) [some (inD w), some (inD h), some (kindD kd)]) : sat f__law_room_of [inD w, inD h, kindD kd] Q := by
  refine sat__law_room_of.mpr ?_
  show wp b__law_room_of [some (inD w), some (inD h), some (kindD kd), none, none] _
  unfold b__law_room_of
  have m1 : (w - kd.w + 1) * (h - kd.h + 1) ≤ 9 * 9 := Int.mul_le_mul (by omega) (by omega) (by omega) (by omega)
  have m2 : 0 < (w - kd.w + 1) * (h - kd.h + 1) := Int.mul_pos (by omega) (by omega)
  walk_at "z"
  rcases hy with e | e | e | e
  · rw [e]
    refine opt_g (b := inD ((w - kd.w + 1) * (h - kd.h + 1))) (by rfl) ?_
    exact q _ (by omega) (by omega)
  · rw [e]
    refine opt_g (b := inD (w - kd.w + 1)) (by rfl) ?_
    exact q _ (by omega) (by omega)
  · rw [e]
    refine opt_g (b := inD (h - kd.h + 1)) (by rfl) ?_
    exact q _ (by omega) (by omega)
  · rw [e]
    refine opt_g (b := inD 1) (by rfl) ?_
    exact q _ (by omega) (by omega)
/-- what a kind is in a hall of w by h -/
structure KOk (w h : Int) (k : TKind) : Prop where
  w1 : 1 ≤ k.w
  w2 : k.w ≤ w
  h1 : 1 ≤ k.h
  h2 : k.h ≤ h
  way : Way k.way
  st : k.st = 0 ∨ k.st = 1 ∨ k.st = -1
/-- the slots of _law_kind behind its first half -/
abbrev kdE (c : List Int) (t w h : Int) (b : Bool) (y : Str) (g : Option D) (x u : Int) : Z.Env := [some (stD c t), some (inD w), some (inD h), some (.at (.bl b)), some (.nd (.lst true) [inD 1, inD 1, inD 1, inD 2, inD 2, inD 3]), some (.at (.str y)), g, some (inD x), some (inD u)]
abbrev KQ (t0 w h : Int) (b : Bool) (Q : D → Z.Env → Prop) : Prop := ∀ (c : List Int) (t : Int) (k : TKind), c ≠ [] → t0 ≤ t → t ≤ t0 + 20 → KOk w h k → Q (kindD k) [some (stD c t), some (inD w), some (inD h), some (.at (.bl b))]
section
variable {c : List Int} {t t0 w h x u g : Int} {b : Bool} {y : Str} {Q : D → Z.Env → Prop}
theorem kind_2 (hc : c ≠ []) (ht : t0 ≤ t) (ht2 : t ≤ t0 + 19) (h0 : 0 ≤ t0) (hb : t0 < 1000000000) (x1 : 1 ≤ x) (x2 : x ≤ w) (u1 : 1 ≤ u) (u2 : u ≤ h) (hy : Way y) (q : KQ t0 w h b Q) : wp t__law_kind_2 (kdE c t w h b y (some (inD g)) x u) (fin (bkO kp__law_kind 0 4) Q) := by
  walk_at "z"
  refine take_ok hc (by omega) (by omega) (by decide) (by decide) fun c1 r1 hc1 h1 h1' => ?_
  walk_at "z"
  refine o_ixP (fun d => ∃ n : Int, d = inD n ∧ (n = 0 ∨ n = 1 ∨ n = -1)) h1 h1' rfl (fun d hd => ?_) ?_
  · simp only [List.mem_cons, List.not_mem_nil, or_false] at hd
    rcases hd with rfl | rfl | rfl | rfl | rfl | rfl
    · exact ⟨0, rfl, .inl rfl⟩
    · exact ⟨0, rfl, .inl rfl⟩
    · exact ⟨1, rfl, .inr (.inl rfl)⟩
    · exact ⟨1, rfl, .inr (.inl rfl)⟩
    · exact ⟨1, rfl, .inr (.inl rfl)⟩
    · exact ⟨-1, rfl, .inr (.inr rfl)⟩
  · rintro d ⟨n, rfl, hn⟩
    walk_at "z"
    exact q c1 (t + 1) ⟨x, u, y, n⟩ hc1 (by omega) (by omega) ⟨x1, x2, u1, u2, hy, hn⟩
end
section
variable {c : List Int} {t t0 w h x u g : Int} {b : Bool} {y : Str} {Q : D → Z.Env → Prop}
theorem kind_3 (hc : c ≠ []) (ht : t0 ≤ t) (ht2 : t ≤ t0 + 19) (h0 : 0 ≤ t0) (hb : t0 < 1000000000) (hw : 1 ≤ w) (hh : 1 ≤ h) (x1 : 1 ≤ x) (x2 : x ≤ w) (u1 : 1 ≤ u) (u2 : u ≤ h) (hy : Way y) (q : KQ t0 w h b Q) : wp t__law_kind_3 (kdE c t w h b y (some (inD g)) x u) (fin (bkO kp__law_kind 0 4) Q) := by
  walk_at "ztail"
  walk_at "y"
  refine br_dec (fun _ => ?_) (fun _ => ?_)
  · walk_at "y"
    exact kind_2 hc ht ht2 h0 hb (by omega) (by omega) (by omega) (by omega) (.inl rfl) q
  · walk_at "y"
    exact kind_2 hc ht ht2 h0 hb x1 x2 u1 u2 hy q
end
section
variable {c : List Int} {t t0 w h x u g : Int} {b : Bool} {y : Str} {Q : D → Z.Env → Prop}
theorem kind_4 (hc : c ≠ []) (ht : t0 ≤ t) (ht2 : t ≤ t0 + 18) (h0 : 0 ≤ t0) (hb : t0 < 1000000000) (hw : 1 ≤ w) (hh : 1 ≤ h) (hw9 : w ≤ 9) (x1 : 1 ≤ x) (x2 : x ≤ w) (u1 : 1 ≤ u) (u2 : u ≤ h) (hy : Way y) (q : KQ t0 w h b Q) : wp t__law_kind_4 (kdE c t w h b y (some (inD g)) x u) (fin (bkO kp__law_kind 0 4) Q) := by
  walk_at "ztail"
  walk_at "y"
  refine br_dec (fun _ => ?_) (fun _ => ?_)
  · walk_at "y"
    refine take_ok hc (by omega) (by omega) (by omega) (by omega) fun c1 r1 hc1 h1 h1' => ?_
    walk_at "y"
    exact kind_3 hc1 (by omega) (by omega) h0 hb hw hh (by omega) (by omega) (by omega) (by omega) (.inr (.inr (.inl rfl))) q
  · walk_at "y"
    exact kind_3 hc ht (by omega) h0 hb hw hh x1 x2 u1 u2 hy q
end
section
variable {c : List Int} {t t0 w h x u g : Int} {b : Bool} {y : Str} {Q : D → Z.Env → Prop}
theorem kind_5 (hc : c ≠ []) (ht : t0 ≤ t) (ht2 : t ≤ t0 + 17) (h0 : 0 ≤ t0) (hb : t0 < 1000000000) (hw : 1 ≤ w) (hh : 1 ≤ h) (hw9 : w ≤ 9) (hh9 : h ≤ 9) (x1 : 1 ≤ x) (x2 : x ≤ w) (u1 : 1 ≤ u) (u2 : u ≤ h) (hy : Way y) (q : KQ t0 w h b Q) : wp t__law_kind_5 (kdE c t w h b y (some (inD g)) x u) (fin (bkO kp__law_kind 0 4) Q) := by
  walk_at "ztail"
  walk_at "y"
  refine br_dec (fun _ => ?_) (fun _ => ?_)
  · walk_at "y"
    refine take_ok hc (by omega) (by omega) (by omega) (by omega) fun c1 r1 hc1 h1 h1' => ?_
    walk_at "y"
    exact kind_4 hc1 (by omega) (by omega) h0 hb hw hh hw9 (by omega) (by omega) (by omega) (by omega) (.inr (.inl rfl)) q
  · walk_at "y"
    exact kind_4 hc ht (by omega) h0 hb hw hh hw9 x1 x2 u1 u2 hy q
end
section
variable {c : List Int} {t t0 w h x u g : Int} {b : Bool} {y : Str} {Q : D → Z.Env → Prop}
theorem kind_6 {g : Option D} (hc : c ≠ []) (ht : t0 ≤ t) (ht2 : t ≤ t0 + 16) (h0 : 0 ≤ t0) (hb : t0 < 1000000000) (hw : 1 ≤ w) (hh : 1 ≤ h) (hw9 : w ≤ 9) (hh9 : h ≤ 9) (x1 : 1 ≤ x) (x2 : x ≤ w) (u1 : 1 ≤ u) (u2 : u ≤ h) (hy : Way y) (q : KQ t0 w h b Q) : wp t__law_kind_6 (kdE c t w h b y g x u) (fin (bkO kp__law_kind 0 4) Q) := by
  walk_at "ztail"
  walk_at "y"
  refine take_ok hc (by omega) (by omega) (by omega) (by omega) fun c1 r1 hc1 h1 h1' => ?_
  walk_at "y"
  exact kind_5 hc1 (by omega) (by omega) h0 hb hw hh hw9 hh9 x1 x2 u1 u2 hy q
end
section
variable {c : List Int} {t t0 w h x u g : Int} {b : Bool} {y : Str} {Q : D → Z.Env → Prop}
/-- behind the broad ones' way -/
theorem kind_01 {P : Fl → Z.Env → Prop} (hc : c ≠ []) (ht : t0 ≤ t) (ht2 : t ≤ t0 + 12) (h0 : 0 ≤ t0) (hb : t0 < 1000000000) (hw : 5 ≤ w) (hh : 4 ≤ h) (hw9 : w ≤ 9) (hh9 : h ≤ 9) (x1 : 1 ≤ x) (x2 : x ≤ w) (u1 : 1 ≤ u) (u2 : u ≤ h) (hy : Way y)
    (q : ∀ (c : List Int) (t x u : Int), c ≠ [] → t0 ≤ t → t ≤ t0 + 16 → 1 ≤ x → x ≤ w → 1 ≤ u → u ≤ h → P .nx (kdE c t w h b y none x u)) : wp t__law_kind_1 (kdE c t w h b y none x u) P := by
  walk_at "ztail"
  walk_at "y"
  refine o_eqF (n := 0) (m := 0) (.str hy.ok) (.str (by decide +kernel)) (by decide) (by decide) eqD_str ?_
  walk_at "y"
  refine br_intro (fun _ => ?_) (fun _ => ?_)
  · walk_at "y"
    refine take_ok hc (by omega) (by omega) (by omega) (by omega) fun c1 r1 hc1 h1 h1' => ?_
    walk_at "z"
    refine o_eqF (n := 0) (m := 0) (.str hy.ok) (.str (by decide +kernel)) (by decide) (by decide) eqD_str ?_
    walk_at "y"
    refine br_intro (fun _ => ?_) (fun _ => ?_)
    · walk_at "y"
      refine take_ok hc1 (by omega) (by omega) (by omega) (by omega) fun c2 r2 hc2 h2 h2' => ?_
      walk_at "y"
      exact q _ _ _ _ hc2 (by omega) (by omega) (by omega) (by omega) (by omega) (by omega)
    · walk_at "y"
      exact q _ _ _ _ hc1 (by omega) (by omega) (by omega) (by omega) (by omega) (by omega)
  · walk_at "z"
    refine o_eqF (n := 0) (m := 0) (.str hy.ok) (.str (by decide +kernel)) (by decide) (by decide) eqD_str ?_
    walk_at "y"
    refine br_intro (fun _ => ?_) (fun _ => ?_)
    · walk_at "y"
      refine take_ok hc (by omega) (by omega) (by omega) (by omega) fun c2 r2 hc2 h2 h2' => ?_
      walk_at "y"
      exact q _ _ _ _ hc2 (by omega) (by omega) (by omega) (by omega) (by omega) (by omega)
    · walk_at "y"
      exact q _ _ _ _ hc (by omega) (by omega) (by omega) (by omega) (by omega) (by omega)
end
theorem way_items {d : D} (h : d ∈ [D.at (.str ("any" : Str)), .at (.str ("any" : Str)), .at (.str ("row" : Str)), .at (.str ("column" : Str)), .at (.str ("row" : Str)), .at (.str ("none" : Str))]) : ∃ y, d = .at (.str y) ∧ Way y := by
  simp only [List.mem_cons, List.not_mem_nil, or_false] at h
  rcases h with rfl | rfl | rfl | rfl | rfl | rfl
  · exact ⟨_, rfl, .inl rfl⟩
  · exact ⟨_, rfl, .inl rfl⟩
  · exact ⟨_, rfl, .inr (.inl rfl)⟩
  · exact ⟨_, rfl, .inr (.inr (.inl rfl))⟩
  · exact ⟨_, rfl, .inr (.inl rfl)⟩
  · exact ⟨_, rfl, .inr (.inr (.inr rfl))⟩
theorem way_items2 {d : D} (h : d ∈ [D.at (.str ("row" : Str)), .at (.str ("column" : Str)), .at (.str ("row" : Str)), .at (.str ("column" : Str)), .at (.str ("any" : Str)), .at (.str ("none" : Str))]) : ∃ y, d = .at (.str y) ∧ Way y := by
  simp only [List.mem_cons, List.not_mem_nil, or_false] at h
  rcases h with rfl | rfl | rfl | rfl | rfl | rfl
  · exact ⟨_, rfl, .inr (.inl rfl)⟩
  · exact ⟨_, rfl, .inr (.inr (.inl rfl))⟩
  · exact ⟨_, rfl, .inr (.inl rfl)⟩
  · exact ⟨_, rfl, .inr (.inr (.inl rfl))⟩
  · exact ⟨_, rfl, .inl rfl⟩
  · exact ⟨_, rfl, .inr (.inr (.inr rfl))⟩
theorem size_items {d : D} (h : d ∈ [inD 1, inD 1, inD 1, inD 2, inD 2, inD 3]) : ∃ n : Int, d = inD n ∧ 1 ≤ n ∧ n ≤ 3 := by
  simp only [List.mem_cons, List.not_mem_nil, or_false] at h
  rcases h with rfl | rfl | rfl | rfl | rfl | rfl
  · exact ⟨1, rfl, by decide, by decide⟩
  · exact ⟨1, rfl, by decide, by decide⟩
  · exact ⟨1, rfl, by decide, by decide⟩
  · exact ⟨2, rfl, by decide, by decide⟩
  · exact ⟨2, rfl, by decide, by decide⟩
  · exact ⟨3, rfl, by decide, by decide⟩
theorem kind_ok {cells : List Int} {t w h : Int} {b : Bool} (hc : cells ≠ []) (ht : 0 ≤ t) (ht2 : t < 1000000000) (hw : 1 ≤ w) (hw9 : w ≤ 9) (hh : 1 ≤ h) (hh9 : h ≤ 9) (hb : b = true → 5 ≤ w ∧ 4 ≤ h) {Q : D → Z.Env → Prop} (q : KQ t w h b Q) : sat f__law_kind [stD cells t, inD w, inD h, .at (.bl b)] Q := by
  refine sat__law_kind.mpr ?_
  show wp b__law_kind [some (stD cells t), some (inD w), some (inD h), some (.at (.bl b)), none, none, none, none, none] _
  unfold b__law_kind
  walk_at "z"
  refine take_ok hc (by omega) (by omega) (by omega) (by omega) fun c1 r1 hc1 h1 h1' => ?_
  walk_at "y"
  refine o_ixP (fun d => ∃ n : Int, d = inD n ∧ 1 ≤ n ∧ n ≤ 3) h1 h1' rfl (fun d hd => size_items hd) ?_
  rintro d ⟨n1, rfl, n2, n3⟩
  walk_at "y"
  refine take_ok hc1 (by omega) (by omega) (by omega) (by omega) fun c2 r2 hc2 h2 h2' => ?_
  walk_at "y"
  refine o_ixP (fun d => ∃ n : Int, d = inD n ∧ 1 ≤ n ∧ n ≤ 3) h2 h2' rfl (fun d hd => size_items hd) ?_
  rintro d ⟨m1, rfl, m2, m3⟩
  walk_at "y"
  walk_at "ztail"
  walk_at "y"
  refine take_ok hc2 (by omega) (by omega) (by omega) (by omega) fun c3 r3 hc3 h3 h3' => ?_
  walk_at "y"
  refine o_ixP (fun d => ∃ y, d = .at (.str y) ∧ Way y) h3 h3' rfl (fun d hd => way_items hd) ?_
  rintro d ⟨y, rfl, hy⟩
  walk_at "y"
  walk_at "ztail"
  walk_at "y"
  refine br_intro (fun e => ?_) (fun e => ?_)
  · have hb2 := hb e
    walk_at "y"
    refine take_ok hc3 (by omega) (by omega) (by omega) (by omega) fun c4 r4 hc4 h4 h4' => ?_
    walk_at "y"
    refine o_ixP (fun d => ∃ y, d = .at (.str y) ∧ Way y) h4 h4' rfl (fun d hd => way_items2 hd) ?_
    rintro d ⟨y2, rfl, hy2⟩
    walk_at "y"
    refine kind_01 (t0 := t) hc4 (by omega) (by omega) ht ht2 hb2.1 hb2.2 hw9 hh9 (by omega) (by omega) (by omega) (by omega) hy2 fun c5 t5 x u hc5 h5 h6 x1 x2 u1 u2 => ?_
    walk_at "y"
    exact kind_6 hc5 h5 h6 ht ht2 hw hh hw9 hh9 x1 x2 u1 u2 hy2 q
  · walk_at "y"
    exact kind_6 hc3 (by omega) (by omega) ht ht2 hw hh hw9 hh9 (by omega) (by omega) (by omega) (by omega) hy q
/-- k stands at p in a hall of w by h -/
structure InH (w h : Int) (k : TKind) (p : Cell) : Prop where
  x0 : 0 ≤ p.1
  x1 : p.1 + k.w ≤ w
  y0 : 0 ≤ p.2
  y1 : p.2 + k.h ≤ h
/-- a hall and places for its trolleys, each in the hall -/
structure HallOk (w h : Int) (shuts : List Cell) (kinds : List TKind) (st : List Cell) : Prop where
  w1 : 1 ≤ w
  w9 : w ≤ 9
  h1 : 1 ≤ h
  h9 : h ≤ 9
  sh : ∀ c ∈ shuts, 0 ≤ c.1 ∧ c.1 < w ∧ 0 ≤ c.2 ∧ c.2 < h
  shl : shuts.length ≤ 81
  len : st.length = kinds.length
  kl : kinds.length ≤ 12
  kd : ∀ (i : Nat) k p, kinds[i]? = some k → st[i]? = some p → KOk w h k ∧ InH w h k p
abbrev hallD (w h : Int) (shuts : List Cell) (kinds : List TKind) : D := .nd .tup [inD w, inD h, .nd .tup (shuts.map cellD), .nd .tup (kinds.map kindD)]
abbrev standD (st : List Cell) : D := .nd .tup (st.map cellD)
theorem cov_len {w h : Int} {p : Cell} (hw : w ≤ 9) (hh : h ≤ 9) : (cov w h p).length ≤ 81 := by
  rw [cov_length]
  have h1 : w.toNat ≤ 9 := by omega
  have h2 : h.toNat ≤ 9 := by omega
  exact Nat.mul_le_mul h1 h2
/-- all cells that trolleys cover -/
def occ : List TKind → List Cell → List Cell
  | k :: ks, p :: ps => cov k.w k.h p ++ occ ks ps
  | _, _ => []
theorem occ_append {k : TKind} {p : Cell} : ∀ {ks : List TKind} {ps : List Cell}, ps.length = ks.length → occ (ks ++ [k]) (ps ++ [p]) = occ ks ps ++ cov k.w k.h p
  | [], [], _ => by simp [occ]
  | [], _ :: _, h => by simp at h
  | _ :: _, [], h => by simp at h
  | a :: ks, b :: ps, h => by
    rw [List.cons_append, List.cons_append, occ, occ, occ_append (by simpa using h), List.append_assoc]
theorem occ_len : ∀ {ks : List TKind} {ps : List Cell}, (∀ k ∈ ks, k.w ≤ 9 ∧ k.h ≤ 9) → (occ ks ps).length ≤ 81 * ks.length
  | [], _, _ => by simp [occ]
  | _ :: _, [], _ => by simp [occ]
  | a :: ks, b :: ps, h => by
    obtain ⟨h1, h2⟩ := h a List.mem_cons_self
    have i1 := occ_len (ks := ks) (ps := ps) fun k hk => h k (List.mem_cons_of_mem _ hk)
    have i2 := cov_len (p := b) h1 h2
    rw [occ, List.length_append, List.length_cons]
    omega
/-- no two trolleys on a cell, none on a wall; the walls rise -/
structure Clear (shuts : List Cell) (kinds : List TKind) (st : List Cell) : Prop where
  srt : shuts.Pairwise ltC
  nd : (shuts ++ occ kinds st).Nodup
abbrev haE (c : List Int) (t much : Int) (b : Bool) (A S : D) (tk : List Cell) (kinds : List TKind) (st : List Cell) (rooms : Int) (x9 : Option D) (w h : Int) (x12 x13 x14 x15 x16 : Option D) : Z.Env :=
  [some (stD c t), some (.at (.bl b)), some (inD much), some A, some S, some (csD true tk), some (.nd (.lst true) (kinds.map kindD)), some (.nd (.lst true) (st.map cellD)), some (inD rooms), x9, some (inD w), some (inD h), x12, x13, x14, x15, x16]
def own (kinds : List TKind) (st : List Cell) (z : Int) : List Cell := match kinds[z.toNat]?, st[z.toNat]? with
  | some k, some p => cov k.w k.h p
  | _, _ => []
section
variable {c : List Int} {t much w h rooms room : Int} {b : Bool} {A S : D} {tk : List Cell} {kinds : List TKind} {st own : List Cell} {x9 x16 : Option D} {kd : TKind} {p : Cell} {P : Fl → Z.Env → Prop}
theorem hall_0 {o : Bool} (hk : tk.length ≤ 10000) (ho : own.length ≤ 81)
    (q : ∀ (x16 : Option D), P .nx (haE c t much b A S (own.foldl putC tk) kinds st rooms x9 w h (some (kindD kd)) (some (cellD p)) (some (.nd (.lst false) (own.map cellD))) (some (inD room)) x16)) :
    wp t__law_hall_0 (haE c t much b A S tk kinds st rooms x9 w h (some (kindD kd)) (some (cellD p)) (some (.nd (.lst o) (own.map cellD))) (some (inD room)) x16) P := by
  have hpo := pure_cells own
  walk_at "ztail"
  walk_at "y"
  refine wp_for_inv (I := fun j ρ => ∃ (x16 : Option D), ρ = haE c t much b A S ((own.take j).foldl putC tk) kinds st rooms x9 w h (some (kindD kd)) (some (cellD p)) (some (.nd (.lst false) (own.map cellD))) (some (inD room)) x16) ⟨x16, rfl⟩ ?_ ?_
  · rintro j y ρ hj ⟨x16, rfl⟩
    obtain ⟨e, he, rfl⟩ := map_get hj
    have hj2 : j < own.length := (List.getElem?_eq_some_iff.mp he).1
    have hfl := fold_len (xs := own.take j) (cs := tk)
    rw [List.length_take] at hfl
    have hm := mut_cs (cs := (own.take j).foldl putC tk) (c := e) (by omega)
    walk_at "y"
    refine ⟨some (cellD e), ?_⟩
    rw [take_succ_get he, List.foldl_append]
    rfl
  · rintro ρ ⟨x16, rfl⟩
    rw [List.length_map, List.take_length]
    walk_at "y"
    exact q x16
end
section
variable {c : List Int} {t much w h rooms room : Int} {b : Bool} {A S : D} {tk : List Cell} {kinds : List TKind} {st own : List Cell} {x9 x16 : Option D} {kd : TKind} {p : Cell} {P : Fl → Z.Env → Prop}
theorem hall_3 {o : Bool} (hk : tk.length ≤ 9000) (ho : own.length ≤ 81) (hl : st.length = kinds.length) (hl2 : kinds.length ≤ 12) (hm : much ≤ 1000000000) (hr1 : 1 ≤ rooms) (hr2 : rooms ≤ 1000000000) (hq1 : 1 ≤ room) (hq2 : room ≤ 81)
    (q0 : ∀ (x14 x16 : Option D), P .nx (haE c t much b A S tk kinds st rooms x9 w h (some (kindD kd)) (some (cellD p)) x14 (some (inD room)) x16))
    (q1 : ∀ (rooms' : Int) (x14 x16 : Option D), (∀ e ∈ own, e ∉ tk) → kinds.length < 12 → 1 ≤ rooms' → rooms' ≤ 1000000000 → P .nx (haE c t much b A S (own.foldl putC tk) (kinds ++ [kd]) (st ++ [p]) rooms' x9 w h (some (kindD kd)) (some (cellD p)) x14 (some (inD room)) x16)) :
    wp t__law_hall_3 (haE c t much b A S tk kinds st rooms x9 w h (some (kindD kd)) (some (cellD p)) (some (.nd (.lst o) (own.map cellD))) (some (inD room)) x16) P := by
  have hpo := pure_cells own
  walk_at "ztail"
  walk_at "y"
  refine br_dec (fun hn => ?_) (fun _ => ?_)
  · walk_at "y"
    refine br_dec (fun hn2 => ?_) (fun _ => ?_)
    · have rp : 0 < rooms * room := Int.mul_pos (by omega) (by omega)
      walk_at "y"
      refine wp_lc_inv (I := fun j acc ρ => acc = ((own.take j).map fun e => decide (e ∈ tk)).map (fun b => D.at (.bl b)) ∧ ρ = haE c t much b A S tk kinds st rooms x9 w h (some (kindD kd)) (some (cellD p)) (some (.nd (.lst false) (own.map cellD))) (some (inD room)) none) ⟨rfl, rfl⟩ ?_ ?_
      · rintro j y acc ρ hy ⟨rfl, rfl⟩ hl
        obtain ⟨e, he, rfl⟩ := map_get hy
        have hj : j < own.length := (List.getElem?_eq_some_iff.mp he).1
        have hlen : (((own.take j).map fun e => decide (e ∈ tk)).map fun b => D.at (.bl b)).length ≤ 1000000 := by
          rw [List.length_map, List.length_map, List.length_take]
          omega
        walk_at "y"
        refine ⟨?_, rfl⟩
        rw [take_succ_get he, List.map_append, List.map_append]
        rfl
      · rintro acc ρ ⟨rfl, hρ⟩
        rw [hρ]
        simp only [List.length_map, List.take_length]
        refine o_anyE ?_
        walk_at "y"
        refine br_intro (fun hb' => ?_) (fun _ => ?_)
        · have hsz : (kinds.map kindD).length < sizeLine := size_m (by rw [List.length_map]; omega)
          have hsz2 : (st.map cellD).length < sizeLine := size_m (by rw [List.length_map, hl]; omega)
          walk_at "y"
          walk_at "ztail"
          walk_at "y"
          walk_at "ztail"
          walk_at "y"
          have e1 : kinds.map kindD ++ [kindD kd] = (kinds ++ [kd]).map kindD := by rw [List.map_append]; rfl
          have e2 : st.map cellD ++ [cellD p] = (st ++ [p]).map cellD := by rw [List.map_append]; rfl
          rw [e1, e2]
          have hno : ∀ e ∈ own, e ∉ tk := fun e he hm => by
            have : ((own.map fun e => decide (e ∈ tk)).any id) = true := List.any_eq_true.mpr ⟨true, List.mem_map.mpr ⟨e, he, decide_eq_true hm⟩, rfl⟩
            rw [this] at hb'
            cases hb'
          exact hall_0 (by omega) ho fun x16 => q1 _ _ x16 hno (by omega) (by omega) (by omega)
        · walk_at "y"
          exact q0 _ _
    · walk_at "y"
      exact q0 _ _
  · walk_at "y"
    exact q0 _ _
end
section
variable {c : List Int} {t much w h rooms room : Int} {b : Bool} {A S : D} {tk : List Cell} {kinds : List TKind} {st own : List Cell} {x9 x16 : Option D} {kd : TKind} {p : Cell} {P : Fl → Z.Env → Prop}
theorem hall_6 {x13 x14 x15 : Option D} {cs : List Cell} (hc : c ≠ []) (ht : 0 ≤ t) (ht2 : t < 100000000) (hkd : KOk w h kd) (htk : tk = cs ++ occ kinds st) (hcl : Clear cs kinds st) (hok : HallOk w h cs kinds st) (hm : much ≤ 1000000000) (hr1 : 1 ≤ rooms) (hr2 : rooms ≤ 1000000000)
    (q : ∀ (c' : List Int) (kinds' : List TKind) (st' : List Cell) (rooms' : Int) (x12 x13 x14 x15 x16 : Option D), c' ≠ [] → Clear cs kinds' st' → HallOk w h cs kinds' st' → 1 ≤ rooms' → rooms' ≤ 1000000000 → P .nx (haE c' (t + 1 + 1) much b A S (cs ++ occ kinds' st') kinds' st' rooms' x9 w h x12 x13 x14 x15 x16)) :
    wp t__law_hall_6 (haE c t much b A S tk kinds st rooms x9 w h (some (kindD kd)) x13 x14 x15 x16) P := by
  obtain ⟨kw1, kw2, kh1, kh2, kway, kst⟩ := id hkd
  obtain ⟨w1, w9, hh1, hh9, hsh, hshl, hlen, hkl, hall⟩ := id hok
  walk_at "ztail"
  walk_at "y"
  refine take_ok hc (by omega) (by omega) (by omega) (by omega) fun c4 r4 hc4 h4 h4' => ?_
  walk_at "y"
  refine take_ok hc4 (by omega) (by omega) (by omega) (by omega) fun c5 r5 hc5 h5 h5' => ?_
  walk_at "y"
  walk_at "ztail"
  walk_at "y"
  refine lcov_ok (k := kd) (p := (r4, r5)) ⟨by omega, by omega⟩ ⟨by omega, by omega⟩ ?_
  have hol := cov_len (w := kd.w) (h := kd.h) (p := (r4, r5)) (by omega) (by omega)
  have hkk : ∀ k ∈ kinds, k.w ≤ 9 ∧ k.h ≤ 9 := fun k hk => by
    obtain ⟨i, hi⟩ := List.mem_iff_getElem?.mp hk
    have hi2 := (List.getElem?_eq_some_iff.mp hi).1
    obtain ⟨hkd, _⟩ := hall i k _ hi (List.getElem?_eq_getElem (by omega))
    have := hkd.w2; have := hkd.h2
    omega
  have hocl := occ_len (ps := st) hkk
  have htl : tk.length ≤ 9000 := by rw [htk, List.length_append]; omega
  have hond := cov_nodup (w := kd.w) (h := kd.h) (p := (r4, r5))
  have hoa := occ_append (k := kd) (p := (r4, r5)) hlen
  generalize cov kd.w kd.h (r4, r5) = own at hol hond hoa
  walk_at "y"
  walk_at "ztail"
  walk_at "y"
  refine room_ok kw1 kw2 w9 kh1 kh2 hh9 kway fun room hr1' hr2' => ?_
  walk_at "y"
  refine hall_3 htl hol hlen hkl hm hr1 hr2 hr1' hr2' (fun x14 x16 => by rw [htk]; exact q _ _ _ _ _ _ _ _ _ hc5 hcl hok hr1 hr2) fun rooms' x14 x16 hno hn g1 g2 => ?_
  have hnd2 : (tk ++ own).Nodup := by
    rw [List.nodup_append, htk]
    refine ⟨hcl.nd, hond, fun a ha b hb e => hno b hb (by rw [htk]; exact e ▸ ha)⟩
  rw [fold_nodup hnd2, htk, List.append_assoc, ← hoa]
  refine q _ _ _ _ _ _ _ _ _ hc5 ⟨hcl.srt, by rw [hoa, ← List.append_assoc, ← htk]; exact hnd2⟩ ⟨w1, w9, hh1, hh9, hsh, hshl, ?_, ?_, ?_⟩ g1 g2
  · rw [List.length_append, List.length_append, hlen]
    rfl
  · rw [List.length_append]
    exact hn
  · intro i k p e1 e2
    by_cases hi : i < kinds.length
    · rw [List.getElem?_append_left hi] at e1
      rw [List.getElem?_append_left (by omega)] at e2
      exact hall i k p e1 e2
    · rw [List.getElem?_append_right (by omega)] at e1
      rw [List.getElem?_append_right (by omega)] at e2
      rw [hlen] at e2
      have h0 : i - kinds.length = 0 := by
        have := (List.getElem?_eq_some_iff.mp e1).1
        simp at this
        omega
      rw [h0] at e1 e2
      cases e1
      cases e2
      exact ⟨hkd, by dsimp only; omega, by dsimp only; omega, by dsimp only; omega, by dsimp only; omega⟩
end
abbrev k1 : TKind := ⟨1, 1, ("any" : Str), 0⟩
abbrev T3 : Type := Int × Int × Int
abbrev k2 (t : T3) : Cell := (t.1, t.2.1)
theorem hall_ok {cells : List Int} {t much : Int} {b : Bool} (hc : cells ≠ []) (ht : 0 ≤ t) (ht2 : t < 1000000) (hm : much ≤ 1000000000) {Q : D → Z.Env → Prop}
    (q : ∀ (c : List Int) (t' w h : Int) (shuts : List Cell) (kinds : List TKind) (st : List Cell), c ≠ [] → t ≤ t' → t' ≤ t + 1000 → HallOk w h shuts kinds st → Clear shuts kinds st → Q (.nd .tup [hallD w h shuts kinds, standD st]) [some (stD c t'), some (.at (.bl b)), some (inD much)]) : sat f__law_hall [stD cells t, .at (.bl b), inD much] Q := by
  refine sat__law_hall.mpr ?_
  show wp b__law_hall [some (stD cells t), some (.at (.bl b)), some (inD much), none, none, none, none, none, none, none, none, none, none, none, none, none, none] _
  unfold b__law_hall
  walk_at "y"
  refine sized_ok hc ht (by omega) fun c1 t1 w h hc1 h1 h1' w1 w9 hh1 hh9 hbb => ?_
  walk_at "z"
  refine lcov_ok (k := ⟨w, h, "none", 0⟩) (p := (0, 0)) ⟨by dsimp only; omega, by dsimp only; omega⟩ ⟨by dsimp only; omega, by dsimp only; omega⟩ ?_
  dsimp only
  have hcl := cov_len (w := w) (h := h) (p := (0, 0)) w9 hh9
  have hcm : ∀ c ∈ cov w h (0, 0), 0 ≤ c.1 ∧ c.1 < w ∧ 0 ≤ c.2 ∧ c.2 < h := fun c hc => by
    have := mem_cov.mp hc
    dsimp only at this
    omega
  have hcs := cov_sorted (w := w) (h := h) (p := (0, 0))
  generalize cov w h (0, 0) = all at hcl hcm hcs
  have hpa := pure_cells all
  walk_at "y"
  walk_at "ztail"
  walk_at "y"
  refine wp_lc_inv (I := fun i acc ρ => ∃ (c : List Int) (t' : Int) (cs : List Cell), c ≠ [] ∧ t1 ≤ t' ∧ t' ≤ t1 + (i : Int) ∧ cs.length ≤ i ∧ cs.Sublist (all.take i) ∧ acc = cs.map cellD ∧ ρ = [some (stD c t'), some (.at (.bl b)), some (inD much), some (.nd (.lst false) (all.map cellD)), none, none, none, none, none, none, some (inD w), some (inD h), none, none, none, none, none])
    ⟨c1, t1, [], hc1, by omega, by omega, Nat.le_refl _, List.Sublist.refl _, rfl, rfl⟩ ?_ ?_
  · rintro i x acc ρ hx ⟨c, t', cs, hc', g1, g2, g3, g4, rfl, rfl⟩ hl
    obtain ⟨e, he, rfl⟩ := map_get hx
    have hi : i < all.length := (List.getElem?_eq_some_iff.mp he).1
    have hlen : (cs.map cellD).length ≤ 1000000 := by rw [List.length_map]; omega
    walk_at "y"
    refine o_pickI (P := fun m => 1 ≤ m ∧ m ≤ 100) (by decide) (by decide) fun m hm => ?_
    walk_at "y"
    refine take_ok hc' (by omega) (by omega) (by omega) (by omega) fun c2 r2 hc2 h2 h2' => ?_
    walk_at "y"
    refine br_dec (fun _ => ?_) (fun _ => ?_)
    · walk_at "y"
      refine ⟨c2, t' + 1, cs ++ [e], hc2, by omega, by omega, ?_, ?_, ?_, rfl⟩
      · rw [List.length_append]
        simp
        omega
      · rw [take_succ_get he]
        exact g4.append (List.Sublist.refl _)
      · rw [List.map_append]
        rfl
    · walk_at "y"
      refine ⟨c2, t' + 1, cs, hc2, by omega, by omega, by omega, ?_, rfl, rfl⟩
      rw [take_succ_get he]
      exact g4.trans (List.sublist_append_left _ _)
  · rintro acc ρ ⟨c, t', cs, hc', g1, g2, g3, g4, rfl, hρ⟩
    rw [hρ]
    rw [List.length_map] at g2 g3 g4
    rw [List.take_length] at g4
    have hsrt := hcs.sublist g4
    have hps := pure_cells cs
    walk_at "z"
    refine wp_lc_inv (I := fun i acc ρ => acc = (cs.take i).map (fun c => .nd .tup [cellD c, .at (.bl true)]) ∧ ρ = [some (stD c t'), some (.at (.bl b)), some (inD much), some (.nd (.lst false) (all.map cellD)), some (.nd (.lst false) (cs.map cellD)), none, none, none, none, none, some (inD w), some (inD h), none, none, none, none, none]) ⟨rfl, rfl⟩ ?_ ?_
    · rintro i x acc ρ hx ⟨rfl, rfl⟩ hl
      obtain ⟨e, he, rfl⟩ := map_get hx
      have hlen : ((cs.take i).map fun c => D.nd .tup [cellD c, .at (.bl true)]).length ≤ 1000000 := by
        rw [List.length_map, List.length_take]
        omega
      walk_at "y"
      refine ⟨?_, rfl⟩
      rw [take_succ_get he, List.map_append]
      rfl
    · rintro acc ρ ⟨rfl, hρ⟩
      rw [hρ]
      simp only [List.length_map, List.take_length]
      refine o_dictS (by omega) ?_
      rw [fold_nodup (cs := []) (by rw [List.nil_append]; exact sorted_nodup hsrt), List.nil_append]
      walk_at "z"
      refine take_ok hc' (by omega) (by omega) (by omega) (by omega) fun c2 r2 hc2 h2 h2' => ?_
      walk_at "y"
      refine o_pickI (P := fun m => 1 ≤ m ∧ m ≤ 30) (by omega) (by omega) fun m hmm => ?_
      walk_at "y"
      refine wp_for_inv (I := fun i ρ => ∃ (c : List Int) (t2 : Int) (kinds : List TKind) (st : List Cell) (rooms : Int) (x9 x12 x13 x14 x15 x16 : Option D), c ≠ [] ∧ t' + 1 ≤ t2 ∧ t2 ≤ t' + 1 + 22 * (i : Int) ∧ Clear cs kinds st ∧ HallOk w h cs kinds st ∧ 1 ≤ rooms ∧ rooms ≤ 1000000000 ∧
        ρ = [some (stD c t2), some (.at (.bl b)), some (inD much), some (.nd (.lst false) (all.map cellD)), some (.nd (.lst false) (cs.map cellD)), some (csD true (cs ++ occ kinds st)), some (.nd (.lst true) (kinds.map kindD)), some (.nd (.lst true) (st.map cellD)), some (inD rooms), x9, some (inD w), some (inD h), x12, x13, x14, x15, x16])
        ⟨c2, t' + 1, [], [], 1, none, none, none, none, none, none, hc2, by omega, by omega, ⟨hsrt, by rw [show occ [] [] = [] from rfl, List.append_nil]; exact sorted_nodup hsrt⟩, ⟨w1, w9, hh1, hh9, fun c hc => hcm c (g4.subset hc), by omega, rfl, by decide, fun i k p e => by simp at e⟩, by decide, by decide, by rw [show occ [] [] = [] from rfl, List.append_nil]; rfl⟩ ?_ ?_
      · rintro i x ρ hx ⟨c, t2, kinds, st, rooms, x9, x12, x13, x14, x15, x16, hc', k1, k2, k3, hok, k4, k5, rfl⟩
        obtain ⟨rfl, hi⟩ := rangeD_get hx
        walk_at "y"
        refine kind_ok hc' (by omega) (by omega) w1 w9 hh1 hh9 hbb fun c3 t3 kd hc3 h3 h3' hkd => ?_
        obtain ⟨kw1, kw2, kh1, kh2, kway, kst⟩ := id hkd
        walk_at "y"
        refine hall_6 hc3 (by omega) (by omega) hkd rfl k3 hok hm k4 k5 fun c' kinds' st' rooms' x12 x13 x14 x15 x16 g1 g2 g3 g4 g5 => ?_
        exact ⟨c', _, kinds', st', rooms', _, x12, x13, x14, x15, x16, g1, by omega, by omega, g2, g3, g4, g5, rfl⟩
      · rintro ρ ⟨c, t2, kinds, st, rooms, x9, x12, x13, x14, x15, x16, hc', k1, k2, k3, hok, k4, k5, rfl⟩
        rw [rangeD_len] at k2
        have hpk := pure_kinds kinds
        have hpst := pure_cells st
        walk_at "z"
        exact q c t2 w h cs kinds st hc' (by omega) (by omega) hok k3
theorem pcov_ok {k : TKind} {p : Cell} (hw : 0 ≤ k.w ∧ k.w ≤ 100) (hh : 0 ≤ k.h ∧ k.h ≤ 100) (hp1 : -1000000 ≤ p.1 ∧ p.1 ≤ 1000000) (hp2 : -1000000 ≤ p.2 ∧ p.2 ≤ 1000000) {Q : D → Z.Env → Prop} (q : Q (.nd (.lst true) ((cov k.w k.h p).map cellD)) [some (kindD k), some (cellD p)]) : sat f_covered [kindD k, cellD p] Q := by
  refine sat_covered.mpr ?_
  show wp b_covered [some (kindD k), some (cellD p), none, none, none] _
  unfold b_covered
  walk_at "z"
  refine wp_for_inv (I := fun i ρ => ∃ (x3 x4 : Option D), ρ = [some (kindD k), some (cellD p), some (.nd (.lst true) (((List.range i).flatMap fun (i : Nat) => colN p k.h i k.h.toNat).map cellD)), x3, x4]) ⟨_, _, rfl⟩ ?_ ?_
  · rintro i x ρ hx ⟨x3, x4, rfl⟩
    obtain ⟨rfl, hi⟩ := rangeD_get hx
    walk_at "z"
    refine wp_lc_inv (I := fun j acc ρ => ρ = [some (kindD k), some (cellD p), some (.nd (.lst true) (((List.range i).flatMap fun (i : Nat) => colN p k.h i k.h.toNat).map cellD)), some (inD (p.1 + (i : Int))), none] ∧ acc = (colN p k.h i j).map cellD) ⟨rfl, rfl⟩ ?_ ?_
    · rintro j y acc ρ hy ⟨rfl, rfl⟩ hl
      obtain ⟨rfl, hj⟩ := rangeD_get hy
      have hlen : ((colN p k.h i j).map cellD).length ≤ 1000000 := by
        rw [List.length_map, List.length_map, List.length_range]
        omega
      walk_at "z"
      refine ⟨rfl, ?_⟩
      rw [colN_succ, List.map_append]
      rfl
    · rintro acc ρ ⟨hρ, rfl⟩
      rw [hρ, rangeD_len]
      walk_at "z"
      refine ext_of rfl (pure_cells _) ?_ (by walk_at "zset") ?_
      · rw [List.length_map, List.length_map, cols_len, List.length_map, List.length_range]
        have h1 : i ≤ 100 := by omega
        have h2 : k.h.toNat ≤ 100 := by omega
        have h3 : i * k.h.toNat ≤ 100 * 100 := Nat.mul_le_mul h1 h2
        exact Nat.le_of_lt (size_m (by omega))
      · dsimp only
        walk_at "z"
        refine ⟨some (inD (p.1 + (i : Int))), none, ?_⟩
        rw [cols_succ, List.map_append, show (p.2 + k.h - p.2).toNat = k.h.toNat by omega]
  · rintro ρ ⟨x3, x4, rfl⟩
    rw [rangeD_len, show (p.1 + k.w - p.1).toNat = k.w.toNat by omega]
    walk_at "z"
    exact q
theorem same_at {m n : Nat} {a : At} {Q : D → Z.Env → Prop} (h : Dat n (.at a)) (k : Q (.at (.bl true)) [some (.at a), some (.at a)]) : sat (f__law_same (m + 1)) [.at a, .at a] Q := by
  refine sat__law_same.mpr ?_
  show wp (b__law_same (f__law_same m)) [some (.at a), some (.at a), none, none, none] _
  unfold b__law_same
  cases h with
  | non =>
    walk_at "z"
    exact k
  | int i =>
    walk_at "z"
    rw [decide_eq_true rfl]
    exact k
  | str x h =>
    walk_at "z"
    refine o_eqT (n := 0) (m := 0) (.str h) (.str h) (by decide) (by decide) rfl ?_
    walk_at "z"
    exact k
theorem same_ok : ∀ {n : Nat} {d1 d2 : D} {Q : D → Z.Env → Prop}, Dat n d1 → d1.frz = d2.frz → n ≤ 64 → Q (.at (.bl true)) [some d1.frz, some d2.frz] → sat (f__law_same (n + 1)) [d1, d2] Q := by
  intro n
  induction n with
  | zero =>
    intro d1 d2 Q hd he hn k
    cases d1 with
    | «at» a =>
      cases frz_at he
      exact same_at hd k
    | nd _ _ => cases hd
  | succ n ih =>
    intro d1 d2 Q hd he hn k
    cases d1 with
    | «at» a =>
      cases frz_at he
      exact same_at hd k
    | nd kd xs =>
      cases hd with
      | tup h hl0 =>
        rw [D.frz] at he
        obtain ⟨ys, rfl, e2⟩ := frz_tup he
        refine sat__law_same.mpr ?_
        show wp (b__law_same (f__law_same (n + 1))) [some (.nd .tup xs), some (.nd .tup ys), none, none, none] _
        unfold b__law_same
        walk_at "z"
        have hlen : xs.length = ys.length := by
          have := congrArg List.length e2
          rw [frzL_length, frzL_length] at this
          exact this.symm
        refine brF (by rw [hlen, decide_eq_true rfl]; rfl) ?_
        walk_at "z"
        refine wp_lc_inv (I := fun i acc ρ => ρ = [some (D.frz (.nd .tup xs)), some (D.frz (.nd .tup ys)), none, none, none] ∧ ∀ x ∈ acc, x = .at (.bl true)) ⟨rfl, fun x hx => nomatch hx⟩ ?_ ?_
        · rintro i x acc ρ hx ⟨rfl, hacc⟩ hl
          obtain ⟨y1, y2, g1, g2, rfl⟩ := zipD_get hx
          rw [frzL_frzL] at g1 g2
          rw [e2] at g2
          rw [g1] at g2
          cases g2
          obtain ⟨y, hy, rfl⟩ := frzL_mem g1
          have hli : acc.length ≤ 1000000 := by
            have := (List.getElem?_eq_some_iff.mp g1).1
            rw [frzL_length] at this
            omega
          walk_at "z"
          refine ih (h y hy).frz rfl (by omega) ?_
          walk_at "z"
          refine ⟨rfl, fun x hx => ?_⟩
          rcases List.mem_append.mp hx with hx | hx
          · exact hacc x hx
          · exact List.mem_singleton.mp hx
        · rintro acc ρ ⟨hρ, hacc⟩
          rw [hρ]
          walk_at "z"
          refine o_allT hacc ?_
          walk_at "z"
          exact k
      | @lst _ o _ h hl0 =>
        rw [D.frz] at he
        obtain ⟨o', ys, rfl, e2⟩ := frz_lst he
        refine sat__law_same.mpr ?_
        show wp (b__law_same (f__law_same (n + 1))) [some (.nd (.lst o) xs), some (.nd (.lst o') ys), none, none, none] _
        unfold b__law_same
        walk_at "z"
        have hlen : xs.length = ys.length := by
          have := congrArg List.length e2
          rw [frzL_length, frzL_length] at this
          exact this.symm
        refine brF (by rw [hlen, decide_eq_true rfl]; rfl) ?_
        walk_at "z"
        refine wp_lc_inv (I := fun i acc ρ => ρ = [some (D.frz (.nd (.lst o) xs)), some (D.frz (.nd (.lst o') ys)), none, none, none] ∧ ∀ x ∈ acc, x = .at (.bl true)) ⟨rfl, fun x hx => nomatch hx⟩ ?_ ?_
        · rintro i x acc ρ hx ⟨rfl, hacc⟩ hl
          obtain ⟨y1, y2, g1, g2, rfl⟩ := zipD_get hx
          rw [frzL_frzL] at g1 g2
          rw [e2] at g2
          rw [g1] at g2
          cases g2
          obtain ⟨y, hy, rfl⟩ := frzL_mem g1
          have hli : acc.length ≤ 1000000 := by
            have := (List.getElem?_eq_some_iff.mp g1).1
            rw [frzL_length] at this
            omega
          walk_at "z"
          refine ih (h y hy).frz rfl (by omega) ?_
          walk_at "z"
          refine ⟨rfl, fun x hx => ?_⟩
          rcases List.mem_append.mp hx with hx | hx
          · exact hacc x hx
          · exact List.mem_singleton.mp hx
        · rintro acc ρ ⟨hρ, hacc⟩
          rw [hρ]
          walk_at "z"
          refine o_allT hacc ?_
          walk_at "z"
          exact k
theorem same_okE {m n : Nat} {d1 d2 : D} {Q : D → Z.Env → Prop} (e : n + 1 = m) (hd : Dat n d1) (h : d1.frz = d2.frz) (hn : n ≤ 64) (k : Q (.at (.bl true)) [some d1.frz, some d2.frz]) : sat (f__law_same m) [d1, d2] Q := by
  subst e
  exact same_ok hd h hn k
theorem same_S {d1 d2 : D} {Q : D → Prop} (hd : Dat 7 d1) (h : d1.frz = d2.frz) (k : Q (.at (.bl true))) : sat (f__law_same 8) (frzL [d1, d2]) (fun d _ => ∃ a, d = .at a ∧ Q d) :=
  same_okE (n := 7) (d1 := d1.frz) (d2 := d2.frz) rfl hd.frz (by rw [frz_frz, frz_frz]; exact h) (by decide) ⟨_, rfl, k⟩
/-- no further off than b -/
def Near (b : Int) (p : Cell) : Prop := (-b ≤ p.1 ∧ p.1 ≤ b) ∧ (-b ≤ p.2 ∧ p.2 ≤ b)
theorem Near.mono {a b : Int} {p : Cell} (h : Near a p) (k : a ≤ b) : Near b p := by
  obtain ⟨⟨h1, h2⟩, h3, h4⟩ := h
  exact ⟨⟨by omega, by omega⟩, by omega, by omega⟩
theorem sho_near {p : Cell} (h : Near 10000000000000000 p) : Sho 49 (cellD p) := by
  obtain ⟨⟨h1, h2⟩, h3, h4⟩ := h
  refine (Sho.tup (L := 21) (xs := [inD p.1, inD p.2]) fun x hx => ?_).mono (by simp)
  simp only [List.mem_cons, List.not_mem_nil, or_false] at hx
  rcases hx with rfl | rfl
  · exact .int (by omega)
  · exact .int (by omega)
theorem sho_way {y : Str} (h : Way y) : Sho 21 (.at (.str y)) := by
  rcases h with rfl | rfl | rfl | rfl <;> exact ⟨rfl, by decide +kernel⟩
theorem sho_kind {w h : Int} {k : TKind} (hk : KOk w h k) (hw : w ≤ 9) (hh : h ≤ 9) : Sho 95 (kindD k) := by
  obtain ⟨a1, a2, a3, a4, a5, a6⟩ := hk
  refine (Sho.tup (L := 21) (xs := [inD k.w, inD k.h, .at (.str k.way), inD k.st]) fun x hx => ?_).mono (by simp)
  simp only [List.mem_cons, List.not_mem_nil, or_false] at hx
  rcases hx with rfl | rfl | rfl | rfl
  · exact .int (by omega)
  · exact .int (by omega)
  · exact sho_way a5
  · exact .int (by omega)
theorem sho_stand {ps : List Cell} (hl : ps.length ≤ 12) (h : ∀ p ∈ ps, Near 10000000000000000 p) : Sho 20000 (standD ps) := by
  refine (Sho.tup (L := 49) fun x hx => ?_).mono (by rw [List.length_map]; omega)
  obtain ⟨p, hp, rfl⟩ := List.mem_map.mp hx
  exact sho_near (h p hp)
theorem sho_hall {w h : Int} {shuts : List Cell} {kinds : List TKind} {st : List Cell} (hok : HallOk w h shuts kinds st) : Sho 80011 (hallD w h shuts kinds) := by
  obtain ⟨w1, w9, hh1, hh9, hsh, hshl, hlen, hkl, hall⟩ := id hok
  refine (Sho.tup (L := 20000) (xs := [inD w, inD h, .nd .tup (shuts.map cellD), .nd .tup (kinds.map kindD)]) fun x hx => ?_).mono (by simp)
  simp only [List.mem_cons, List.not_mem_nil, or_false] at hx
  rcases hx with rfl | rfl | rfl | rfl
  · exact (Sho.int (by omega)).mono (by decide)
  · exact (Sho.int (by omega)).mono (by decide)
  · refine (Sho.tup (L := 49) fun x hx => ?_).mono (by rw [List.length_map]; omega)
    obtain ⟨p, hp, rfl⟩ := List.mem_map.mp hx
    have := hsh p hp
    exact sho_near ⟨⟨by omega, by omega⟩, by omega, by omega⟩
  · refine (Sho.tup (L := 95) fun x hx => ?_).mono (by rw [List.length_map]; omega)
    obtain ⟨k, hk, rfl⟩ := List.mem_map.mp hx
    obtain ⟨i, hi⟩ := List.getElem?_of_mem hk
    have hil := (List.getElem?_eq_some_iff.mp hi).1
    exact sho_kind (hall i k _ hi (List.getElem?_eq_getElem (by omega))).1 w9 hh9
theorem fit_kind {n : Nat} {k : TKind} (hy : Way k.way) : Fit (n + 1) (kindD k) := .tup fun x hx => by
  simp only [List.mem_cons, List.not_mem_nil, or_false] at hx
  rcases hx with rfl | rfl | rfl | rfl
  · exact .int
  · exact .int
  · rcases hy with e | e | e | e <;> rw [e] <;> exact .str (by decide +kernel)
  · exact .int
theorem fit_hall {w h : Int} {shuts : List Cell} {kinds : List TKind} {st : List Cell} (hok : HallOk w h shuts kinds st) : Fit 4 (hallD w h shuts kinds) := .tup fun x hx => by
  simp only [List.mem_cons, List.not_mem_nil, or_false] at hx
  rcases hx with rfl | rfl | rfl | rfl
  · exact .int
  · exact .int
  · exact .tup (Fit.map fun _ _ => fit_cell)
  · refine .tup (Fit.map fun k hk => ?_)
    obtain ⟨i, hi⟩ := List.getElem?_of_mem hk
    have hil := (List.getElem?_eq_some_iff.mp hi).1
    have hlen := hok.len
    exact fit_kind (hok.kd i k _ hi (List.getElem?_eq_getElem (by omega))).1.way
theorem near_stand {w h : Int} {shuts : List Cell} {kinds : List TKind} {st : List Cell} (hok : HallOk w h shuts kinds st) : ∀ p ∈ st, Near 10000000000000000 p := fun p hp => by
  obtain ⟨i, hi⟩ := List.getElem?_of_mem hp
  have hil := (List.getElem?_eq_some_iff.mp hi).1
  have hlen := hok.len
  obtain ⟨⟨a1, a2, a3, a4, _, _⟩, ⟨b1, b2, b3, b4⟩⟩ := hok.kd i _ p (List.getElem?_eq_getElem (by omega)) hi
  have hw9 := hok.w9
  have hh9 := hok.h9
  exact ⟨⟨by omega, by omega⟩, by omega, by omega⟩
theorem keyC : KeyD cellD cellK where
  inj := fun a b => cellK_inj
  tp := fun a => ⟨_, rfl⟩
  kk := fun a => rfl
  kd := fun a => rfl
  dp := fun a => by simp [NestedKey.depth, NestedKey.depthAll]
section
variable {α β : Type} [DecidableEq α]
def lg : List (α × β) → α → Option β
  | [], _ => none
  | e :: m, s => if e.1 = s then some e.2 else lg m s
end
section
variable {α β : Type} [DecidableEq α]
theorem gd_lg {g : β → D} {s : α} : ∀ {m : List (α × β)}, gdGet (m.map fun e => (e.1, g e.2)) s = (lg m s).map g
  | [] => rfl
  | e :: m => by
    rw [List.map_cons, gdGet, lg, gd_lg (m := m)]
    split <;> rfl
end
section
variable {α β : Type} [DecidableEq α]
def lp : List (α × β) → α → β → List (α × β)
  | [], s, v => [(s, v)]
  | e :: m, s, v => if e.1 = s then (s, v) :: m else e :: lp m s v
end
section
variable {α β : Type} [DecidableEq α]
theorem gd_lp {g : β → D} {s : α} {v : β} : ∀ {m : List (α × β)}, gdPut (m.map fun e => (e.1, g e.2)) s (g v) = (lp m s v).map fun e => (e.1, g e.2)
  | [] => rfl
  | e :: m => by
    rw [List.map_cons, gdPut, lp]
    by_cases h : e.1 = s
    · rw [if_pos h, if_pos h]; rfl
    · rw [if_neg h, if_neg h, gd_lp (m := m)]; rfl
end
theorem begin_ok (ns : List Int) {Q : D → Z.Env → Prop} (k : ∀ (cells : List Int), cells ≠ [] → Q (stD cells 0) [some (scD ns)]) : sat f__law_begin [scD ns] Q := by
  refine sat__law_begin.mpr ?_
  show wp b__law_begin [some (scD ns), none] _
  unfold b__law_begin
  have hp := pureL_inD (cutN ns none (some 63))
  walk_at "z"
  refine o_eqF (n := 1) (m := 1) (b := decide (cutN ns none (some 63) = [])) (.lst (Fit.map fun _ _ => .int)) (.lst (by simp)) (by decide) (by decide) (eqD_lst.trans (eqL_inD (ys := []))) ?_
  walk_at "z"
  refine br_dec (fun h => ?_) (fun h => ?_)
  · walk_at "z"
    exact k [7] (by simp)
  · walk_at "z"
    exact k _ h
theorem pure_kindT (kinds : List TKind) : (D.nd .tup (kinds.map kindD)).pure = true := by
  show (true && pureL (kinds.map kindD)) = true
  rw [pure_kinds]
  rfl
theorem pure_cellT (cs : List Cell) : (D.nd .tup (cs.map cellD)).pure = true := by
  show (true && pureL (cs.map cellD)) = true
  rw [pure_cells]
  rfl
theorem pure_hall (w h : Int) (shuts : List Cell) (kinds : List TKind) : (hallD w h shuts kinds).pure = true := by
  show (true && pureL [inD w, inD h, .nd .tup (shuts.map cellD), .nd .tup (kinds.map kindD)]) = true
  have hpsh := pure_cells shuts
  have hpk := pure_kinds kinds
  simp only [pureL, D.pure, Kd.own, hpsh, hpk, Bool.not_false, Bool.and_true, Bool.true_and]
section
variable {Q : D → Prop}
theorem any_cells {c : Cell} : ∀ cs : List Cell, ((cs.map cellD).any fun z => eqD z (cellD c)) = decide (c ∈ cs)
  | [] => by simp
  | e :: cs => by
    rw [List.map_cons, List.any_cons, any_cells cs, eqD_cell]
    by_cases h : e = c
    · subst h; simp
    · by_cases h2 : c ∈ cs <;> simp [h, h2, Ne.symm h]
end
section
variable {Q : D → Prop}
theorem lay_cells (cs : List Cell) : plainL (cs.map cellD) = true ∧ PyData.canLayAll0 (pyL (cs.map cellD)) = true := by
  obtain ⟨h1, h2, _⟩ := fitL (n := 1) (xs := cs.map cellD) (Fit.map fun _ _ => fit_cell)
  exact ⟨h1, h2⟩
end
section
variable {Q : D → Prop}
theorem o_inT {c : Cell} {cs : List Cell} (k : Q (.at (.bl (decide (c ∈ cs))))) : opt (gIn [cellD c, .nd .tup (cs.map cellD)]) Q := by
  refine opt_of (b := .at (.bl (decide (c ∈ cs)))) ?_ k
  show (if (cellD c).ok = true ∧ plainL (cs.map cellD) = true ∧ PyData.canLayAll0 (pyL (cs.map cellD)) = true then some ((cs.map cellD).any fun z => eqD z (cellD c)) else none).map (fun b => D.at (.bl b)) = _
  rw [if_pos ⟨(fit_cell (n := 0)).ok (by decide), lay_cells cs⟩, any_cells]
  rfl
end
section
variable {Q : D → Prop}
theorem o_inL {c : Cell} {o : Bool} {cs : List Cell} (k : Q (.at (.bl (decide (c ∈ cs))))) : opt (gIn [cellD c, .nd (.lst o) (cs.map cellD)]) Q := by
  refine opt_of (b := .at (.bl (decide (c ∈ cs)))) ?_ k
  show (if (cellD c).ok = true ∧ plainL (cs.map cellD) = true ∧ PyData.canLayAll0 (pyL (cs.map cellD)) = true then some ((cs.map cellD).any fun z => eqD z (cellD c)) else none).map (fun b => D.at (.bl b)) = _
  rw [if_pos ⟨(fit_cell (n := 0)).ok (by decide), lay_cells cs⟩, any_cells]
  rfl
end
theorem hall_at3 (w h : Int) (shuts : List Cell) (kinds : List TKind) : L2.atI [inD w, inD h, D.nd .tup (shuts.map cellD), D.nd .tup (kinds.map kindD)] 3 = some (.nd .tup (kinds.map kindD)) := rfl
def steps (ts : List T3) : Int := (ts.map fun t => t.2.2).sum
def val (ts : List T3) (p : Nat × Nat) : T3 := match ts[p.1]? with
  | some t => (t.1, t.2.1, steps ((ts.drop p.1).take (p.2 - p.1)))
  | none => (0, 0, 0)
section
variable {w h : Int} {shuts : List Cell} {kinds : List TKind} {st : List Cell}
theorem HallOk.kk (hok : HallOk w h shuts kinds st) : ∀ k ∈ kinds, KOk w h k := fun k hk => by
  obtain ⟨i, hi⟩ := List.mem_iff_getElem?.mp hk
  have hi2 := (List.getElem?_eq_some_iff.mp hi).1
  have := hok.len
  exact (hok.kd i k _ hi (List.getElem?_eq_getElem (by omega))).1
end
section
variable {α β : Type} [DecidableEq α]
theorem lg_lp {s x : α} {v : β} : ∀ {m : List (α × β)}, lg (lp m s v) x = if s = x then some v else lg m x
  | [] => rfl
  | e :: m => by
    rw [lp]
    by_cases h : e.1 = s
    · rw [if_pos h, lg, lg]
      by_cases q : s = x
      · rw [if_pos q, if_pos q]
      · rw [if_neg q, if_neg q, if_neg (fun z => q (h.symm.trans z))]
    · rw [if_neg h, lg, lg, lg_lp (m := m)]
      by_cases q : e.1 = x
      · rw [if_pos q, if_pos q, if_neg (fun z => h (q.trans z.symm))]
      · rw [if_neg q, if_neg q]
end
section
variable {α β : Type} [DecidableEq α]
theorem lp_keys {s : α} {v : β} : ∀ {m : List (α × β)}, (lp m s v).map (·.1) = if s ∈ m.map (·.1) then m.map (·.1) else m.map (·.1) ++ [s]
  | [] => rfl
  | e :: m => by
    rw [lp, List.map_cons]
    by_cases h : e.1 = s
    · rw [if_pos h, if_pos (by rw [h]; exact List.mem_cons_self), List.map_cons, h]
    · rw [if_neg h, List.map_cons, lp_keys (m := m)]
      by_cases q : s ∈ m.map (·.1)
      · rw [if_pos q, if_pos (List.mem_cons_of_mem _ q)]
      · rw [if_neg q, if_neg (fun z => (List.mem_cons.mp z).elim (fun y => h y.symm) q), List.cons_append]
end
section
variable {α β : Type} [DecidableEq α]
theorem lp_len {s : α} {v : β} {m : List (α × β)} : (lp m s v).length = if s ∈ m.map (·.1) then m.length else m.length + 1 := by
  have := congrArg List.length (lp_keys (m := m) (s := s) (v := v))
  rw [List.length_map] at this
  rw [this]
  split <;> simp
end

/-! P56B: texts as lists of codes; what a hall's text is. -/
def mkS (l : List Nat) : Str := ⟨l.toArray⟩
theorem mkS_app (a b : List Nat) : mkS a ++ mkS b = mkS (a ++ b) := by
  show (⟨a.toArray ++ b.toArray⟩ : Str) = ⟨(a ++ b).toArray⟩
  rw [List.append_toArray]
theorem mkS_nil : ("" : Str) = mkS [] := by decide +kernel
theorem mkS_wall : ("#" : Str) = mkS [35] := by decide +kernel
theorem mkS_free : ("." : Str) = mkS [46] := by decide +kernel
theorem mkS_len (l : List Nat) : (mkS l).length = l.length := by
  show l.toArray.size = _
  exact List.size_toArray ..
theorem slen_app (a b : Str) : (a ++ b).length = a.length + b.length := by
  show (a.cps ++ b.cps).size = _
  rw [Array.size_append]
  rfl
/-- all its codes are low -/
def lowS (s : Str) : Prop := ∀ c ∈ s.cps.toList, c < 128
theorem lowS_app {a b : Str} (h1 : lowS a) (h2 : lowS b) : lowS (a ++ b) := fun c hc => by
  have hc : c ∈ (a.cps ++ b.cps).toList := hc
  rw [Array.toList_append] at hc
  exact (List.mem_append.mp hc).elim (h1 c) (h2 c)
theorem lowS_mk {l : List Nat} (h : ∀ c ∈ l, c < 128) : lowS (mkS l) := fun c hc => h c (by
  have hc : c ∈ l.toArray.toList := hc
  rwa [List.toList_toArray] at hc)
theorem lowS_ok {s : Str} (h : lowS s) : PySem.PyData.strOk s = true := by
  show s.cps.all (· < 0x110000) = true
  rw [Array.all_eq_true']
  intro c hc
  have := h c (by rw [Array.mem_toList_iff]; exact hc)
  exact decide_eq_true (by omega)
theorem lowS_join {a : Str} (ha : lowS a) : ∀ {ys : List Str}, (∀ y ∈ ys, lowS y) → lowS (Str.join a ys)
  | [], _ => fun c hc => nomatch hc
  | [y], h => h y (List.mem_singleton_self _)
  | y :: z :: ys, h => lowS_app (lowS_app (h y List.mem_cons_self) ha) (lowS_join ha fun x hx => h x (List.mem_cons_of_mem _ hx))
theorem join_mk : ∀ l : List Nat, Txt.join ("" : Str) (l.map fun c => mkS [c]) = mkS l := by
  intro l
  rw [TL.join_eq, mkS_nil]
  induction l with
  | nil => rfl
  | cons c l ih =>
    cases l with
    | nil => rfl
    | cons d l =>
      show mkS [c] ++ mkS [] ++ Str.join (mkS []) ((d :: l).map fun c => mkS [c]) = _
      rw [ih, mkS_app, mkS_app]
      rfl
theorem o_addS {x y : Str} {Q : D → Prop} (h : x.length + y.length ≤ 1000000) (k : Q (.at (.str (x ++ y)))) : opt (gAdd [.at (.str x), .at (.str y)]) Q := by
  refine opt_of (b := .at (.str (x ++ y))) ?_ k
  show (if x.length + y.length ≤ sizeLine then some (D.at (.str (x ++ y))) else none) = _
  rw [if_pos (Nat.le_of_lt (size_m h))]
theorem letter_at : ∀ n : Fin 12, L2.atI (("abcdefghijkl" : Str).cps.toList) ((n.val : Nat) : Int) = some (97 + n.val) := by decide +kernel
theorem o_letter {n : Nat} {Q : D → Prop} (h : n < 12) (k : Q (strD (mkS [97 + n]))) : opt (gIx [.at (.str ("abcdefghijkl" : Str)), .at (.int (n : Int))]) Q := by
  refine opt_of (b := strD (mkS [97 + n])) ?_ k
  show (if ("abcdefghijkl" : Str).length ≤ sizeLine then (L2.atI (("abcdefghijkl" : Str).cps.toList) (n : Int)).map (fun c => D.at (.str ⟨#[c]⟩)) else none) = _
  rw [if_pos (by decide +kernel), letter_at ⟨n, h⟩]
  rfl
/-! ### signs -/
def cvN (kinds : List TKind) (st : List Cell) (n : Nat) : List Cell := match kinds[n]?, st[n]? with
  | some k, some p => cov k.w k.h p
  | _, _ => []
theorem cvN_eq {kinds : List TKind} {st : List Cell} {n : Nat} {k : TKind} {p : Cell} (h1 : kinds[n]? = some k) (h2 : st[n]? = some p) : cvN kinds st n = cov k.w k.h p := by
  unfold cvN
  rw [h1, h2]
/-- the code of a cell's sign, the first trolleys put there -/
def mark (shuts : List Cell) (kinds : List TKind) (st : List Cell) (i : Nat) (c : Cell) : Nat := (List.range i).foldl (fun m n => if c ∈ cvN kinds st n then 97 + n else m) (if c ∈ shuts then 35 else 46)
theorem mark_zero {shuts : List Cell} {kinds : List TKind} {st : List Cell} {c : Cell} : mark shuts kinds st 0 c = if c ∈ shuts then 35 else 46 := rfl
theorem mark_succ {shuts : List Cell} {kinds : List TKind} {st : List Cell} {i : Nat} {c : Cell} : mark shuts kinds st (i + 1) c = if c ∈ cvN kinds st i then 97 + i else mark shuts kinds st i c := by
  unfold mark
  rw [List.range_succ, List.foldl_append]
  rfl
theorem mark_lt {shuts : List Cell} {kinds : List TKind} {st : List Cell} {c : Cell} : ∀ {i : Nat}, i ≤ 12 → mark shuts kinds st i c < 128
  | 0, _ => by rw [mark_zero]; split <;> decide
  | i + 1, h => by
    rw [mark_succ]
    split
    · omega
    · exact mark_lt (by omega)
abbrev sgV (c : Nat) : D := strD (mkS [c])
abbrev sgD (o : Bool) (m : List (Cell × Nat)) : D := gdD cellK o (m.map fun e => (e.1, sgV e.2))
theorem frz_sg {o : Bool} {m : List (Cell × Nat)} : (sgD o m).frz = sgD false m := by
  have hv : frzL ((m.map fun e => (e.1, sgV e.2)).map fun e => e.2) = ((m.map fun e => (e.1, sgV e.2)).map fun e => e.2) := by
    rw [List.map_map]
    exact frzL_map_of fun _ _ => rfl
  show (D.nd (.dn o _) _).frz = _
  rw [D.frz, hv]
  rfl
theorem sg_put {m : List (Cell × Nat)} {c : Cell} {v : Nat} (h : m.length ≤ 100000) : mutP (sgD true m) [] uSet [cellD c, sgV v] = some (sgD true (lp m c v), .at .non) := by
  have := keyC.mut_gd (m := m.map fun e => (e.1, sgV e.2)) (c := c) (e := sgV v) (by rw [List.length_map]; exact h)
  rw [gd_lp (g := sgV)] at this
  exact this
theorem lp_le {m : List (Cell × Nat)} {c : Cell} {v : Nat} : (lp m c v).length ≤ m.length + 1 := by
  rw [lp_len]
  split <;> omega
theorem o_getSg {m : List (Cell × Nat)} {c : Cell} {Q : D → Prop} (k : Q (sgV ((lg m c).getD 46))) : opt (gGetN [sgD false m, cellD c, .at (.str ("." : Str))]) Q := by
  refine opt_of (b := sgV ((lg m c).getD 46)) ?_ k
  show pureO ((cellD c).key.bind fun k => if k.depth ≤ 8 then some ((atNK ((m.map fun e => (e.1, sgV e.2)).map fun e => cellK e.1) ((m.map fun e => (e.1, sgV e.2)).map fun e => e.2) k).getD (strD ("." : Str))) else none) = _
  rw [show (cellD c).key = some (cellK c) from keyC.kk c, Option.bind_some, if_pos (keyC.dp c), keyC.at_gd, gd_lg (g := sgV)]
  have e : ((lg m c).map sgV).getD (strD ("." : Str)) = sgV ((lg m c).getD 46) := by
    rw [mkS_free]
    cases lg m c <;> rfl
  rw [e]
  rfl
theorem o_dictW {cs : List Cell} {o : Bool} {Q : D → Prop} (hl : cs.length ≤ 100000) (k : ∀ m : List (Cell × Nat), (∀ c, lg m c = if c ∈ cs then some 35 else none) → m.length ≤ cs.length → Q (sgD true m)) : opt (one1 gDictN [.nd (.lst o) (cs.map fun c => .nd .tup [cellD c, .at (.str ("#" : Str))])]) Q := by
  have key : ∀ (cs : List Cell) (m : List (Cell × Nat)), putAll ((m.map fun e => (e.1, sgV e.2)).map (fun e => cellK e.1), (m.map fun e => (e.1, sgV e.2)).map (fun e => e.2)) (cs.map fun c => (cellK c, D.at (.str ("#" : Str)))) = (((cs.foldl (fun m c => lp m c 35) m).map fun e => (e.1, sgV e.2)).map (fun e => cellK e.1), ((cs.foldl (fun m c => lp m c 35) m).map fun e => (e.1, sgV e.2)).map (fun e => e.2)) := by
    intro cs
    induction cs with
    | nil => intro m; rfl
    | cons c cs ih =>
      intro m
      have e1 : putAll ((m.map fun e => (e.1, sgV e.2)).map (fun e => cellK e.1), (m.map fun e => (e.1, sgV e.2)).map (fun e => e.2)) ((c :: cs).map fun c => (cellK c, D.at (.str ("#" : Str)))) = putAll (putD ((m.map fun e => (e.1, sgV e.2)).map (fun e => cellK e.1)) ((m.map fun e => (e.1, sgV e.2)).map (fun e => e.2)) (cellK c) (sgV 35)) (cs.map fun c => (cellK c, D.at (.str ("#" : Str)))) := by
        unfold putAll
        rw [List.map_cons, List.foldl_cons, mkS_wall]
      rw [e1, keyC.put_gd, gd_lp (g := sgV), ih (lp m c 35), List.foldl_cons]
  have hg : ∀ (cs : List Cell) (m : List (Cell × Nat)) (x : Cell), lg (cs.foldl (fun m c => lp m c 35) m) x = if x ∈ cs then some 35 else lg m x := by
    intro cs
    induction cs with
    | nil => intro m x; simp
    | cons c cs ih =>
      intro m x
      rw [List.foldl_cons, ih, lg_lp]
      by_cases h1 : x ∈ cs
      · rw [if_pos h1, if_pos (List.mem_cons_of_mem _ h1)]
      · rw [if_neg h1]
        by_cases h2 : c = x
        · rw [if_pos h2, if_pos (h2 ▸ List.mem_cons_self)]
        · rw [if_neg h2, if_neg (fun z => (List.mem_cons.mp z).elim (fun e => h2 e.symm) h1)]
  have hn : ∀ (cs : List Cell) (m : List (Cell × Nat)), (cs.foldl (fun m c => lp m c 35) m).length ≤ m.length + cs.length := by
    intro cs
    induction cs with
    | nil => intro m; exact Nat.le_refl _
    | cons c cs ih =>
      intro m
      have h1 := ih (lp m c 35)
      have h2 := lp_le (m := m) (c := c) (v := 35)
      rw [List.foldl_cons, List.length_cons]
      omega
  have h3 := hn cs []
  rw [List.length_nil, Nat.zero_add] at h3
  refine opt_of (b := sgD true (cs.foldl (fun m c => lp m c 35) [])) ?_ (k _ (fun c => by rw [hg]; rfl) h3)
  show (allSome pairN (cs.map fun c => D.nd .tup [cellD c, .at (.str ("#" : Str))])).bind _ = _
  rw [allSome_map (h := fun c : Cell => (cellK c, D.at (.str ("#" : Str)))) (zs := cs) fun c _ => by
    show ((cellD c).key.bind fun k => if k.depth ≤ 8 ∧ (D.at (.str ("#" : Str))).pure = true then some (k, D.at (.str ("#" : Str))) else none) = _
    rw [show (cellD c).key = some (cellK c) from keyC.kk c, Option.bind_some, if_pos ⟨keyC.dp c, rfl⟩], Option.bind_some, if_pos (by rw [List.length_map]; exact Nat.le_of_lt (size_m (by omega)))]
  have := key cs []
  rw [show (([] : List NestedKey), ([] : List D)) = ((([] : List (Cell × Nat)).map fun e => (e.1, sgV e.2)).map (fun e => cellK e.1), (([] : List (Cell × Nat)).map fun e => (e.1, sgV e.2)).map (fun e => e.2)) from rfl, this]
/-! ### rows -/
section
variable {w h : Int} {shuts : List Cell} {kinds : List TKind} {st : List Cell}
def rowC (w : Int) (shuts : List Cell) (kinds : List TKind) (st : List Cell) (y : Int) : List Nat := (List.range w.toNat).map fun (x : Nat) => mark shuts kinds st kinds.length (((x : Nat) : Int), y)
def rowsS (w h : Int) (shuts : List Cell) (kinds : List TKind) (st : List Cell) : List Str := (List.range h.toNat).map fun k => mkS (rowC w shuts kinds st (h - 1 - (k : Nat)))
def stS (s : Int) : Str := if s = 0 then "" else if s = 1 then " strong" else " dull"
def wayS (n : Nat) (k : TKind) : Str := mkS [97 + n] ++ (" " : Str) ++ k.way ++ stS k.st
def waysS (kinds : List TKind) : List Str := (List.range kinds.length).map fun n => match kinds[n]? with
  | some k => wayS n k
  | none => ""
def hallRows (w h : Int) (shuts : List Cell) (kinds : List TKind) (st : List Cell) : List Str := ("hall" : Str) :: (rowsS w h shuts kinds st ++ waysS kinds)
def hallT (w h : Int) (shuts : List Cell) (kinds : List TKind) (st : List Cell) : Str := Txt.join ("\n" : Str) (hallRows w h shuts kinds st)
theorem stS_len {s : Int} : (stS s).length ≤ 7 := by
  unfold stS
  split
  · decide +kernel
  · split <;> decide +kernel
theorem stS_low {s : Int} : lowS (stS s) := by
  unfold stS lowS
  split
  · decide +kernel
  · split <;> decide +kernel
theorem way_len {k : TKind} (hy : Way k.way) : k.way.length ≤ 6 := by
  rcases hy with e | e | e | e <;> rw [e] <;> decide +kernel
theorem way_low {k : TKind} (hy : Way k.way) : lowS k.way := by
  unfold lowS
  rcases hy with e | e | e | e <;> rw [e] <;> decide +kernel
theorem wayS_len {n : Nat} {k : TKind} (hy : Way k.way) : (wayS n k).length ≤ 20 := by
  have h1 := way_len hy
  have h2 := stS_len (s := k.st)
  have h3 : (" " : Str).length = 1 := by decide +kernel
  unfold wayS
  rw [slen_app, slen_app, slen_app, mkS_len, h3]
  show 1 + 1 + _ + _ ≤ 20
  omega
theorem wayS_low {n : Nat} {k : TKind} (hn : n < 12) (hy : Way k.way) : lowS (wayS n k) :=
  lowS_app (lowS_app (lowS_app (lowS_mk fun c hc => by rw [List.mem_singleton.mp hc]; omega) (by unfold lowS; decide +kernel)) (way_low hy)) stS_low
theorem o_stT {s : Int} {Q : D → Prop} (h : s = 0 ∨ s = 1 ∨ s = -1) (k : Q (strD (stS s))) : opt (gIx [.nd .tup [.at (.str ("" : Str)), .at (.str (" strong" : Str)), .at (.str (" dull" : Str))], .at (.int s)]) Q := by
  rcases h with e | e | e <;> rw [e] at k ⊢ <;> exact k
theorem o_stL {s : Int} {o : Bool} {Q : D → Prop} (h : s = 0 ∨ s = 1 ∨ s = -1) (k : Q (strD (stS s))) : opt (gIx [.nd (.lst o) [.at (.str ("" : Str)), .at (.str (" strong" : Str)), .at (.str (" dull" : Str))], .at (.int s)]) Q := by
  rcases h with e | e | e <;> rw [e] at k ⊢ <;> exact k
theorem kind_of (hok : HallOk w h shuts kinds st) {n : Nat} {k : TKind} (hk : kinds[n]? = some k) : n < 12 ∧ Way k.way ∧ (k.st = 0 ∨ k.st = 1 ∨ k.st = -1) := by
  have hn := (List.getElem?_eq_some_iff.mp hk).1
  have h1 := hok.kl
  have h2 := hok.len
  obtain ⟨⟨_, _, _, _, z, z2⟩, _⟩ := hok.kd n k _ hk (List.getElem?_eq_getElem (by omega))
  exact ⟨by omega, z, z2⟩
theorem mem_ways (hok : HallOk w h shuts kinds st) {s : Str} (hs : s ∈ waysS kinds) : s.length ≤ 20 ∧ lowS s := by
  obtain ⟨n, hn, rfl⟩ := List.mem_map.mp hs
  have hn := List.mem_range.mp hn
  have hk : kinds[n]? = some kinds[n] := List.getElem?_eq_getElem hn
  obtain ⟨a, b, c⟩ := kind_of hok hk
  rw [hk]
  exact ⟨wayS_len b, wayS_low a b⟩
theorem rowC_len {y : Int} : (rowC w shuts kinds st y).length = w.toNat := by
  unfold rowC
  rw [List.length_map, List.length_range]
theorem mem_rows (hok : HallOk w h shuts kinds st) {s : Str} (hs : s ∈ rowsS w h shuts kinds st) : s.length ≤ 20 ∧ lowS s := by
  obtain ⟨n, hn, rfl⟩ := List.mem_map.mp hs
  have h9 := hok.w9
  have hkl := hok.kl
  refine ⟨by rw [mkS_len, rowC_len]; omega, lowS_mk fun c hc => ?_⟩
  obtain ⟨x, _, rfl⟩ := List.mem_map.mp hc
  exact mark_lt hkl
theorem mem_hallRows (hok : HallOk w h shuts kinds st) {s : Str} (hs : s ∈ hallRows w h shuts kinds st) : s.length ≤ 20 ∧ lowS s := by
  rcases List.mem_cons.mp hs with rfl | hs
  · exact ⟨by decide +kernel, by unfold lowS; decide +kernel⟩
  · exact (List.mem_append.mp hs).elim (mem_rows hok) (mem_ways hok)
theorem hallRows_len (hok : HallOk w h shuts kinds st) : (hallRows w h shuts kinds st).length ≤ 22 := by
  have h1 := hok.h9
  have h2 := hok.kl
  unfold hallRows rowsS waysS
  rw [List.length_cons, List.length_append, List.length_map, List.length_range, List.length_map, List.length_range]
  omega
theorem hallT_low (hok : HallOk w h shuts kinds st) : lowS (hallT w h shuts kinds st) := by
  unfold hallT
  rw [TL.join_eq]
  exact lowS_join (by unfold lowS; decide +kernel) fun y hy => (mem_hallRows hok hy).2
theorem sum_le {ys : List Str} {n : Nat} (h : ∀ y ∈ ys, y.length ≤ n) : (ys.map (·.length)).sum ≤ ys.length * n := by
  induction ys with
  | nil => simp
  | cons y ys ih =>
    have h1 := h y List.mem_cons_self
    have h2 := ih fun x hx => h x (List.mem_cons_of_mem _ hx)
    rw [List.map_cons, List.sum_cons, List.length_cons, Nat.succ_mul]
    omega
theorem hallT_fit (hok : HallOk w h shuts kinds st) : ((hallRows w h shuts kinds st).map (·.length)).sum + (hallRows w h shuts kinds st).length * ("\n" : Str).length ≤ 16777216 := by
  have h1 := sum_le (n := 20) fun y hy => (mem_hallRows hok hy).1
  have h2 := hallRows_len hok
  have h3 : ("\n" : Str).length = 1 := by decide +kernel
  rw [h3]
  omega
end

/-! P56C: hall_text. -/
section
variable {w h : Int} {shuts : List Cell} {kinds : List TKind} {st : List Cell}
abbrev piE (w h : Int) (shuts : List Cell) (kinds : List TKind) (st : List Cell) (x2 x3 x4 x9 x10 x11 x12 : Option D) : Z.Env := [some (hallD w h shuts kinds), some (standD st), x2, x3, x4, some (inD w), some (inD h), some (.nd .tup (shuts.map cellD)), some (.nd .tup (kinds.map kindD)), x9, x10, x11, x12]
theorem picture_ok (hok : HallOk w h shuts kinds st) {Q : D → Z.Env → Prop} (q : Q (.nd (.lst true) ((rowsS w h shuts kinds st).map strD)) [some (hallD w h shuts kinds), some (standD st)]) : sat f_picture_of [hallD w h shuts kinds, standD st] Q := by
  obtain ⟨w1, w9, hh1, hh9, hsh, hshl, hlen, hkl, hall⟩ := id hok
  have hph := pure_hall w h shuts kinds
  have hpst := pure_cellT st
  have hpk := pure_kindT kinds
  have hpc := pure_cellT shuts
  refine sat_picture_of.mpr ?_
  show wp b_picture_of [some (hallD w h shuts kinds), some (standD st), none, none, none, none, none, none, none, none, none, none, none] _
  unfold b_picture_of
  walk_at "y"
  walk_at "ztail"
  walk_at "y"
  with_reducible refine wp_lc_inv (I := fun i acc ρ => acc = (shuts.take i).map (fun c => D.nd .tup [cellD c, .at (.str ("#" : Str))]) ∧ ρ = piE w h shuts kinds st none none none none none none none) ?a0 ?a1 ?a2
  · exact ⟨rfl, rfl⟩
  · rintro i z acc ρ hz ⟨rfl, rfl⟩ hl
    obtain ⟨c, hc, rfl⟩ := map_get hz
    have hi := (List.getElem?_eq_some_iff.mp hc).1
    have hlen2 : ((shuts.take i).map (fun c => D.nd .tup [cellD c, .at (.str ("#" : Str))])).length ≤ 1000000 := by rw [List.length_map, List.length_take]; omega
    walk_at "y"
    refine ⟨?_, rfl⟩
    rw [take_succ_get hc, List.map_append]
    rfl
  rintro acc ρ ⟨rfl, hρ⟩
  rw [hρ, List.length_map, List.take_length]
  refine o_dictW (by omega) fun m0 hm0 hml0 => ?_
  walk_at "y"
  walk_at "ztail"
  walk_at "y"
  with_reducible refine wp_for_inv (I := fun i ρ => ∃ (m : List (Cell × Nat)) (x9 x10 x11 : Option D), (∀ c, (lg m c).getD 46 = mark shuts kinds st i c) ∧ m.length ≤ 100 + 100 * i ∧ ρ = piE w h shuts kinds st (some (sgD true m)) none none x9 x10 x11 none) ?b0 ?b1 ?b2
  · refine ⟨m0, _, _, _, fun c => ?_, by omega, rfl⟩
    rw [hm0, mark_zero]
    split <;> rfl
  · rintro i z ρ hz ⟨m, x9, x10, x11, hm, hml, rfl⟩
    obtain ⟨x, hx, rfl⟩ := enumD_get hz
    obtain ⟨p, hp, rfl⟩ := map_get hx
    have hi := (List.getElem?_eq_some_iff.mp hp).1
    walk_at "y"
    refine o_ixMT (by omega) (by omega) (fun _ => rfl) fun kd hkm hk1 => ?_
    have hk1 : kinds[i]? = some kd := by simpa using hk1
    obtain ⟨hkd, hin⟩ := hall _ _ _ hk1 hp
    obtain ⟨kw1, kw2, kh1, kh2, kway, kst⟩ := id hkd
    obtain ⟨b1, b2, b3, b4⟩ := id hin
    walk_at "y"
    refine pcov_ok (k := kd) (p := p) ⟨by omega, by omega⟩ ⟨by omega, by omega⟩ ⟨by omega, by omega⟩ ⟨by omega, by omega⟩ ?_
    have hol : (cov kd.w kd.h p).length ≤ 81 := by
      rw [cov_length]
      exact Nat.le_trans (Nat.mul_le_mul (show kd.w.toNat ≤ 9 by omega) (show kd.h.toNat ≤ 9 by omega)) (by decide)
    have hcv := cvN_eq hk1 hp
    have hpcs : pureL ((cov kd.w kd.h p).map cellD) = true := pureL_map fun _ _ => rfl
    walk_at "y"
    with_reducible refine wp_for_inv (I := fun j ρ => ∃ (m : List (Cell × Nat)) (x11 : Option D), (∀ c, (lg m c).getD 46 = if c ∈ (cov kd.w kd.h p).take j then 97 + i else mark shuts kinds st i c) ∧ m.length ≤ 100 + 100 * i + j ∧ ρ = piE w h shuts kinds st (some (sgD true m)) none none (some (inD i)) (some (cellD p)) x11 none) ?c0 ?c1 ?c2
    · exact ⟨m, _, fun c => by rw [hm]; simp, by omega, rfl⟩
    · rintro j z ρ hz ⟨m, x11, hm, hml, rfl⟩
      obtain ⟨c, hc, rfl⟩ := map_get hz
      have hj := (List.getElem?_eq_some_iff.mp hc).1
      have hmu := sg_put (m := m) (c := c) (v := 97 + i) (by omega)
      walk_at "y"
      refine o_letter (by omega) ?_
      walk_at "y"
      have h2 := lp_le (m := m) (c := c) (v := 97 + i)
      refine ⟨lp m c (97 + i), some (cellD c), fun e => ?_, by omega, rfl⟩
      rw [lg_lp, take_succ_get hc]
      by_cases he : c = e
      · rw [if_pos he, if_pos (List.mem_append_right _ (by rw [he]; simp))]
        rfl
      · rw [if_neg he, hm]
        by_cases he2 : e ∈ (cov kd.w kd.h p).take j
        · rw [if_pos he2, if_pos (List.mem_append_left _ he2)]
        · rw [if_neg he2, if_neg (fun z => (List.mem_append.mp z).elim he2 fun y => he (List.mem_singleton.mp y).symm)]
    · rintro ρ ⟨m, x11, hm, hml, rfl⟩
      rw [List.length_map] at hm hml
      rw [List.take_length] at hm
      walk_at "y"
      refine ⟨m, _, _, x11, fun c => ?_, by omega, rfl⟩
      rw [hm, mark_succ, hcv]
  · rintro ρ ⟨m, x9, x10, x11, hm, hml, rfl⟩
    rw [enumD_len, List.length_map] at hm
    walk_at "y"
    walk_at "ztail"
    walk_at "y"
    walk_at "ztail"
    walk_at "y"
    refine wp_zRngD.mpr ?_
    walk_at "y"
    have hml2 : m.length ≤ 100000 := by
      rw [enumD_len, List.length_map] at hml
      omega
    with_reducible refine wp_for_inv (I := fun i ρ => ∃ (o : Bool) (x4 : Option D), ρ = piE w h shuts kinds st (some (sgD o m)) (some (.nd (.lst true) (((List.range i).map fun k => mkS (rowC w shuts kinds st (h - 1 - (k : Nat)))).map strD))) x4 x9 x10 x11 none) ?d0 ?d1 ?d2
    · exact ⟨_, _, rfl⟩
    · rintro i z ρ hz ⟨o, x4, rfl⟩
      obtain ⟨hi, rfl⟩ := downD_get hz
      have hsz : (((List.range i).map fun k => mkS (rowC w shuts kinds st (h - 1 - (k : Nat)))).map strD).length < sizeLine := size_m (by rw [List.length_map, List.length_map, List.length_range]; omega)
      walk_at "y"
      with_reducible refine wp_lc_inv (I := fun j acc ρ => acc = ((List.range j).map fun x => mkS [mark shuts kinds st kinds.length (((x : Nat) : Int), h - 1 - (i : Nat))]).map strD ∧ ∃ o, ρ = piE w h shuts kinds st (some (sgD o m)) (some (.nd (.lst true) (((List.range i).map fun k => mkS (rowC w shuts kinds st (h - 1 - (k : Nat)))).map strD))) (some (inD (h - 1 - (i : Nat)))) x9 x10 x11 none) ?e0 ?e1 ?e2
      · exact ⟨rfl, _, rfl⟩
      · rintro j z acc ρ hz ⟨rfl, o, rfl⟩ hl
        obtain ⟨rfl, hj⟩ := rangeD_get hz
        rw [Int.zero_add (j : Int)]
        have hlen2 : (((List.range j).map fun x => mkS [mark shuts kinds st kinds.length (((x : Nat) : Int), h - 1 - (i : Nat))]).map strD).length ≤ 1000000 := by rw [List.length_map, List.length_map, List.length_range]; omega
        walk_at "y"
        refine var_frz (d := sgD o m) rfl (by walk_at "zset") ?_
        rw [frz_sg]
        refine ⟨rfl, ?_⟩
        walk_at "y"
        refine o_getSg (c := ((j : Int), h - 1 - (i : Nat))) ?_
        rw [hm]
        walk_at "y"
        refine ⟨?_, _, rfl⟩
        rw [List.range_succ, List.map_append, List.map_append, hlen]
        rfl
      · rintro acc ρ ⟨rfl, o, hρ⟩
        rw [rangeD_len] at *
        rw [hρ]
        refine o_join (o := true) (ys := (List.range (w - 0).toNat).map fun x => mkS [mark shuts kinds st kinds.length (((x : Nat) : Int), h - 1 - (i : Nat))]) ?_ ?_
        · have h1 := sum_le (n := 1) (ys := (List.range (w - 0).toNat).map fun x => mkS [mark shuts kinds st kinds.length (((x : Nat) : Int), h - 1 - (i : Nat))]) fun y hy => by
            obtain ⟨x, _, rfl⟩ := List.mem_map.mp hy
            rw [mkS_len]
            exact Nat.le_refl _
          have h3 : ("" : Str).length = 0 := by decide +kernel
          rw [h3]
          rw [List.length_map, List.length_range] at h1
          omega
        · have e1 : ((List.range (w - 0).toNat).map fun x => mkS [mark shuts kinds st kinds.length (((x : Nat) : Int), h - 1 - (i : Nat))]) = (rowC w shuts kinds st (h - 1 - (i : Nat))).map fun c => mkS [c] := by
            unfold rowC
            rw [List.map_map, Int.sub_zero]
            rfl
          rw [e1, join_mk]
          walk_at "y"
          refine ⟨o, some (inD (h - 1 - (i : Nat))), ?_⟩
          rw [List.range_succ, List.map_append, List.map_append]
          rfl
    · rintro ρ ⟨o, x4, rfl⟩
      rw [downD_len]
      rw [show (h - 1 - -1).toNat = h.toNat by omega]
      walk_at "y"
      walk_at "ztail"
      walk_at "y"
      exact q
theorem way_ok {n : Nat} {k : TKind} (hn : n < 12) (hy : Way k.way) (hs : k.st = 0 ∨ k.st = 1 ∨ k.st = -1) {Q : D → Z.Env → Prop} (q : Q (strD (wayS n k)) [some (inD n), some (kindD k)]) : sat f_way_row [inD n, kindD k] Q := by
  have h1 := way_len hy
  have h2 := stS_len (s := k.st)
  have h3 : (" " : Str).length = 1 := by decide +kernel
  refine sat_way_row.mpr ?_
  show wp b_way_row [some (inD n), some (kindD k)] _
  unfold b_way_row
  walk_at "y"
  refine o_letter hn ?_
  walk_at "y"
  refine o_addS (by rw [slen_app, mkS_len, h3]; show 1 + 1 + _ ≤ _; omega) ?_
  walk_at "y"
  refine o_stT hs ?_
  walk_at "y"
  refine o_addS (by rw [slen_app, slen_app, mkS_len, h3]; show 1 + 1 + _ + _ ≤ _; omega) ?_
  walk_at "y"
  exact q
theorem hall_text_ok (hok : HallOk w h shuts kinds st) {Q : D → Z.Env → Prop} (q : Q (strD (hallT w h shuts kinds st)) [some (hallD w h shuts kinds), some (standD st)]) : sat f_hall_text [hallD w h shuts kinds, standD st] Q := by
  obtain ⟨w1, w9, hh1, hh9, hsh, hshl, hlen, hkl, hall⟩ := id hok
  have hph := pure_hall w h shuts kinds
  have hpst := pure_cellT st
  have hpk := pure_kindT kinds
  have hi3 := hall_at3 w h shuts kinds
  refine sat_hall_text.mpr ?_
  show wp b_hall_text [some (hallD w h shuts kinds), some (standD st), none, none] _
  unfold b_hall_text
  walk_at "y"
  refine picture_ok hok ?_
  have hpr : pureL ((rowsS w h shuts kinds st).map strD) = true := pureL_map fun _ _ => rfl
  have hrl : (rowsS w h shuts kinds st).length ≤ 9 := by
    unfold rowsS
    rw [List.length_map, List.length_range]
    omega
  walk_at "y"
  refine o_cat (xs := [strD ("hall" : Str)]) rfl hpr (Nat.le_of_lt (size_m (by rw [List.length_map]; show 1 + _ ≤ _; omega))) ?_
  walk_at "y"
  with_reducible refine wp_lc_inv (I := fun i acc ρ => acc = (((List.range i).map fun n => match kinds[n]? with
    | some k => wayS n k
    | none => "").map strD) ∧ ρ = [some (hallD w h shuts kinds), some (standD st), none, none]) ?a0 ?a1 ?a2
  · exact ⟨rfl, rfl⟩
  · rintro i z acc ρ hz ⟨rfl, rfl⟩ hl
    obtain ⟨x, hx, rfl⟩ := enumD_get hz
    obtain ⟨k, hk, rfl⟩ := map_get hx
    have hi := (List.getElem?_eq_some_iff.mp hk).1
    obtain ⟨a1, a2, a3⟩ := kind_of hok hk
    have hlen2 : (((List.range i).map fun n => match kinds[n]? with
      | some k => wayS n k
      | none => "").map strD).length ≤ 1000000 := by rw [List.length_map, List.length_map, List.length_range]; omega
    walk_at "y"
    refine way_ok a1 a2 a3 ?_
    walk_at "y"
    refine ⟨?_, rfl⟩
    rw [List.range_succ, List.map_append, List.map_append]
    simp only [List.map_cons, List.map_nil, hk]
  rintro acc ρ ⟨rfl, hρ⟩
  rw [hρ, enumD_len, List.length_map]
  have hpw : pureL ((waysS kinds).map strD) = true := pureL_map fun _ _ => rfl
  have hwl : (waysS kinds).length ≤ 12 := by
    unfold waysS
    rw [List.length_map, List.length_range]
    exact hkl
  have hpr2 : pureL ([strD ("hall" : Str)] ++ (rowsS w h shuts kinds st).map strD) = true := pureL_append rfl hpr
  refine o_cat (ys := (waysS kinds).map strD) hpr2 hpw (Nat.le_of_lt (size_m (by rw [List.length_append, List.length_map, List.length_map]; show 1 + _ + _ ≤ _; omega))) ?_
  have e : [strD ("hall" : Str)] ++ (rowsS w h shuts kinds st).map strD ++ (waysS kinds).map strD = (hallRows w h shuts kinds st).map strD := by
    unfold hallRows
    rw [List.map_cons, List.map_append]
    rfl
  rw [e]
  walk_at "y"
  refine o_join (o := true) (hallT_fit hok) ?_
  walk_at "y"
  exact q
end

/-! P56D: the law's own text; the law k56. -/
section
variable {w h : Int} {shuts : List Cell} {kinds : List TKind} {st : List Cell}
theorem rng_snoc {α : Type} {f : Nat → α} {j : Nat} : (List.range j).map f ++ [f j] = (List.range (j + 1)).map f := by
  rw [List.range_succ, List.map_append]
  rfl
theorem rng_snoc2 {f : Nat → Str} {j : Nat} : ((List.range j).map f).map strD ++ [strD (f j)] = ((List.range (j + 1)).map f).map strD := by
  rw [List.range_succ, List.map_append, List.map_append]
  rfl
abbrev lpE (w h : Int) (shuts : List Cell) (kinds : List TKind) (st : List Cell) (x2 x3 x8 x9 x10 x11 x12 : Option D) : Z.Env := [some (hallD w h shuts kinds), some (standD st), x2, x3, some (inD w), some (inD h), some (.nd .tup (shuts.map cellD)), some (.nd .tup (kinds.map kindD)), x8, x9, x10, x11, x12]
theorem lpicture_ok (hok : HallOk w h shuts kinds st) {Q : D → Z.Env → Prop} (q : Q (.nd (.lst true) ((rowsS w h shuts kinds st).map strD)) [some (hallD w h shuts kinds), some (standD st)]) : sat f__law_picture [hallD w h shuts kinds, standD st] Q := by
  obtain ⟨w1, w9, hh1, hh9, hsh, hshl, hlen, hkl, hall⟩ := id hok
  have hph := pure_hall w h shuts kinds
  have hpst := pure_cellT st
  have hpk := pure_kindT kinds
  have hpc := pure_cellT shuts
  refine sat__law_picture.mpr ?_
  show wp b__law_picture [some (hallD w h shuts kinds), some (standD st), none, none, none, none, none, none, none, none, none, none, none] _
  unfold b__law_picture
  walk_at "y"
  walk_at "ztail"
  walk_at "y"
  walk_at "ztail"
  walk_at "y"
  with_reducible refine wp_for_inv (I := fun i ρ => ∃ (x3 x8 x9 x10 x11 x12 : Option D), ρ = lpE w h shuts kinds st (some (.nd (.lst true) (((List.range i).map fun k => mkS (rowC w shuts kinds st (h - 1 - (k : Nat)))).map strD))) x3 x8 x9 x10 x11 x12) ?d0 ?d1 ?d2
  · exact ⟨_, _, _, _, _, _, rfl⟩
  · rintro i z ρ hz ⟨x3, x8, x9, x10, x11, x12, rfl⟩
    obtain ⟨hi, rfl⟩ := revD_get hz
    have ey : (0 : Int) + (((h - 0).toNat - 1 - i : Nat) : Int) = h - 1 - (i : Nat) := by omega
    rw [ey]
    have hsz : (((List.range i).map fun k => mkS (rowC w shuts kinds st (h - 1 - (k : Nat)))).map strD).length < sizeLine := size_m (by rw [List.length_map, List.length_map, List.length_range]; omega)
    walk_at "y"
    walk_at "ztail"
    walk_at "y"
    with_reducible refine wp_for_inv (I := fun j ρ => ∃ (x9 x10 x11 x12 : Option D), ρ = lpE w h shuts kinds st (some (.nd (.lst true) (((List.range i).map fun k => mkS (rowC w shuts kinds st (h - 1 - (k : Nat)))).map strD))) (some (inD (h - 1 - (i : Nat)))) (some (strD (mkS ((List.range j).map fun x => mark shuts kinds st kinds.length (((x : Nat) : Int), h - 1 - (i : Nat)))))) x9 x10 x11 x12) ?e0 ?e1 ?e2
    · exact ⟨_, _, _, _, by rw [mkS_nil]; rfl⟩
    · rintro j z ρ hz ⟨x9, x10, x11, x12, rfl⟩
      obtain ⟨rfl, hj⟩ := rangeD_get hz
      rw [Int.zero_add (j : Int)]
      walk_at "y"
      refine o_inT (c := ((j : Int), h - 1 - (i : Nat))) ?_
      walk_at "y"
      have rest : ∀ (x11 x12 : Option D), wp t__law_picture_1 (lpE w h shuts kinds st (some (.nd (.lst true) (((List.range i).map fun k => mkS (rowC w shuts kinds st (h - 1 - (k : Nat)))).map strD))) (some (inD (h - 1 - (i : Nat)))) (some (strD (mkS ((List.range j).map fun x => mark shuts kinds st kinds.length (((x : Nat) : Int), h - 1 - (i : Nat)))))) (some (inD j)) (some (sgV (mark shuts kinds st 0 ((j : Int), h - 1 - (i : Nat))))) x11 x12) (fun fl ρ' => fl = .nx ∧ ∃ (x9 x10 x11 x12 : Option D), ρ' = lpE w h shuts kinds st (some (.nd (.lst true) (((List.range i).map fun k => mkS (rowC w shuts kinds st (h - 1 - (k : Nat)))).map strD))) (some (inD (h - 1 - (i : Nat)))) (some (strD (mkS ((List.range (j + 1)).map fun x => mark shuts kinds st kinds.length (((x : Nat) : Int), h - 1 - (i : Nat)))))) x9 x10 x11 x12) := fun x11 x12 => by
        walk_at "ztail"
        walk_at "y"
        with_reducible refine wp_for_inv (I := fun n ρ => ∃ (x11 x12 : Option D), ρ = lpE w h shuts kinds st (some (.nd (.lst true) (((List.range i).map fun k => mkS (rowC w shuts kinds st (h - 1 - (k : Nat)))).map strD))) (some (inD (h - 1 - (i : Nat)))) (some (strD (mkS ((List.range j).map fun x => mark shuts kinds st kinds.length (((x : Nat) : Int), h - 1 - (i : Nat)))))) (some (inD j)) (some (sgV (mark shuts kinds st n ((j : Int), h - 1 - (i : Nat))))) x11 x12) ?g0 ?g1 ?g2
        · exact ⟨_, _, rfl⟩
        · rintro n z ρ hz ⟨x11, x12, rfl⟩
          obtain ⟨x, hx, rfl⟩ := enumD_get hz
          obtain ⟨p, hp, rfl⟩ := map_get hx
          have hn := (List.getElem?_eq_some_iff.mp hp).1
          walk_at "y"
          refine o_ixMT (by omega) (by omega) (fun _ => rfl) fun kd hkm hk1 => ?_
          have hk1 : kinds[n]? = some kd := by simpa using hk1
          obtain ⟨hkd, hin⟩ := hall _ _ _ hk1 hp
          obtain ⟨kw1, kw2, kh1, kh2, kway, kst⟩ := id hkd
          have hcv := cvN_eq hk1 hp
          walk_at "y"
          refine lcov_ok (k := kd) (p := p) ⟨by omega, by omega⟩ ⟨by omega, by omega⟩ ?_
          walk_at "y"
          refine o_inL (c := ((j : Int), h - 1 - (i : Nat))) ?_
          walk_at "y"
          refine br_dec (fun g => ?_) (fun g => ?_)
          · walk_at "y"
            refine o_letter (by omega) ?_
            walk_at "y"
            refine ⟨some (inD (n : Int)), some (cellD p), ?_⟩
            rw [mark_succ, hcv, if_pos g]
          · walk_at "y"
            refine ⟨some (inD (n : Int)), some (cellD p), ?_⟩
            rw [mark_succ, hcv, if_neg g]
        · rintro ρ ⟨x11, x12, rfl⟩
          rw [enumD_len, List.length_map, hlen]
          walk_at "y"
          walk_at "ztail"
          walk_at "y"
          refine o_addS (by rw [mkS_len, mkS_len, List.length_map, List.length_range]; show _ + 1 ≤ _; omega) ?_
          walk_at "y"
          rw [mkS_app, rng_snoc (f := fun x => mark shuts kinds st kinds.length (((x : Nat) : Int), h - 1 - (i : Nat)))]
          exact ⟨rfl, _, _, _, _, rfl⟩
      refine br_dec (fun g => ?_) (fun g => ?_)
      · walk_at "y"
        have := rest x11 x12
        rw [mark_zero, if_pos g] at this
        rw [mkS_wall]
        refine wp_mono this fun fl ρ' hq => ?_
        obtain ⟨rfl, hq⟩ := hq
        exact lopI_nx.mpr hq
      · walk_at "y"
        have := rest x11 x12
        rw [mark_zero, if_neg g] at this
        rw [mkS_free]
        refine wp_mono this fun fl ρ' hq => ?_
        obtain ⟨rfl, hq⟩ := hq
        exact lopI_nx.mpr hq
    · rintro ρ ⟨x9, x10, x11, x12, rfl⟩
      rw [rangeD_len, Int.sub_zero]
      walk_at "y"
      walk_at "ztail"
      walk_at "y"
      have e : ((List.range i).map fun k : Nat => mkS (rowC w shuts kinds st (h - 1 - (k : Nat)))).map strD ++ [D.at (.str (mkS ((List.range w.toNat).map fun x => mark shuts kinds st kinds.length (((x : Nat) : Int), h - 1 - (i : Nat)))))] = ((List.range (i + 1)).map fun k : Nat => mkS (rowC w shuts kinds st (h - 1 - (k : Nat)))).map strD := rng_snoc2 (f := fun k : Nat => mkS (rowC w shuts kinds st (h - 1 - (k : Nat))))
      rw [e]
      exact ⟨_, _, _, _, _, _, rfl⟩
  · rintro ρ ⟨x3, x8, x9, x10, x11, x12, rfl⟩
    rw [List.length_reverse, rangeD_len, Int.sub_zero]
    walk_at "y"
    walk_at "ztail"
    walk_at "y"
    exact q
theorem ltext_ok (hok : HallOk w h shuts kinds st) {Q : D → Z.Env → Prop} (q : Q (strD (hallT w h shuts kinds st)) [some (hallD w h shuts kinds), some (standD st)]) : sat f__law_text [hallD w h shuts kinds, standD st] Q := by
  obtain ⟨w1, w9, hh1, hh9, hsh, hshl, hlen, hkl, hall⟩ := id hok
  have hph := pure_hall w h shuts kinds
  have hpst := pure_cellT st
  have hpk := pure_kindT kinds
  have hi3 := hall_at3 w h shuts kinds
  have h3 : (" " : Str).length = 1 := by decide +kernel
  refine sat__law_text.mpr ?_
  show wp b__law_text [some (hallD w h shuts kinds), some (standD st), none, none, none] _
  unfold b__law_text
  walk_at "y"
  refine lpicture_ok hok ?_
  have hpr : pureL ((rowsS w h shuts kinds st).map strD) = true := pureL_map fun _ _ => rfl
  have hrl : (rowsS w h shuts kinds st).length ≤ 9 := by
    unfold rowsS
    rw [List.length_map, List.length_range]
    omega
  walk_at "y"
  refine o_cat (xs := [strD ("hall" : Str)]) rfl hpr (Nat.le_of_lt (size_m (by rw [List.length_map]; show 1 + _ ≤ _; omega))) ?_
  walk_at "y"
  walk_at "ztail"
  walk_at "y"
  with_reducible refine wp_for_inv (I := fun i ρ => ∃ (x3 x4 : Option D), ρ = [some (hallD w h shuts kinds), some (standD st), some (.nd (.lst true) ([strD ("hall" : Str)] ++ (rowsS w h shuts kinds st).map strD ++ ((List.range i).map fun n => match kinds[n]? with
    | some k => wayS n k
    | none => "").map strD)), x3, x4]) ?a0 ?a1 ?a2
  · exact ⟨_, _, by rw [List.range_zero, List.map_nil, List.map_nil, List.append_nil]⟩
  · rintro i z ρ hz ⟨x3, x4, rfl⟩
    obtain ⟨x, hx, rfl⟩ := enumD_get hz
    obtain ⟨k, hk, rfl⟩ := map_get hx
    have hi := (List.getElem?_eq_some_iff.mp hk).1
    obtain ⟨a1, a2, a3⟩ := kind_of hok hk
    have b1 := way_len a2
    have b2 := stS_len (s := k.st)
    have hsz : ([strD ("hall" : Str)] ++ (rowsS w h shuts kinds st).map strD ++ ((List.range i).map fun n => match kinds[n]? with
      | some k => wayS n k
      | none => "").map strD).length < sizeLine := size_m (by
        rw [List.length_append, List.length_append, List.length_map, List.length_map, List.length_map, List.length_range]
        show 1 + _ + _ ≤ _
        omega)
    walk_at "y"
    refine o_letter a1 ?_
    walk_at "y"
    refine o_addS (by rw [slen_app, mkS_len, h3]; show 1 + 1 + _ ≤ _; omega) ?_
    walk_at "y"
    refine o_stL a3 ?_
    walk_at "y"
    refine o_addS (by rw [slen_app, slen_app, mkS_len, h3]; show 1 + 1 + _ + _ ≤ _; omega) ?_
    walk_at "y"
    refine ⟨some (inD (i : Int)), some (kindD k), ?_⟩
    rw [List.range_succ, List.map_append, List.map_append]
    simp only [List.map_cons, List.map_nil, hk, List.append_assoc]
    rfl
  · rintro ρ ⟨x3, x4, rfl⟩
    rw [enumD_len, List.length_map]
    have e : [strD ("hall" : Str)] ++ (rowsS w h shuts kinds st).map strD ++ (waysS kinds).map strD = (hallRows w h shuts kinds st).map strD := by
      unfold hallRows
      rw [List.map_cons, List.map_append]
      rfl
    rw [show ([strD ("hall" : Str)] ++ (rowsS w h shuts kinds st).map strD ++ ((List.range kinds.length).map fun n => match kinds[n]? with
      | some k => wayS n k
      | none => "").map strD) = (hallRows w h shuts kinds st).map strD from e]
    walk_at "y"
    walk_at "ztail"
    walk_at "y"
    refine o_join (o := true) (hallT_fit hok) ?_
    walk_at "y"
    exact q
theorem o_slPreT {xs ys : List D} {lo hi : Option Int} {Q : D → Prop} (h : (D.nd .tup xs).pure = true) (e : cutD xs lo hi = ys) (k : Q (.nd .tup ys)) : opt (one1 (gSl lo hi) [.nd .tup xs]) Q := by
  have hp : pureL xs = true := h
  refine opt_of (b := .nd .tup ys) ?_ k
  show (if pureL xs = true then some (D.nd .tup (cutD xs lo hi)) else none) = _
  rw [if_pos hp, e]
theorem o_strLS {w h : Int} {shuts : List Cell} {kinds : List TKind} {st ps : List Cell} {o : Bool} {Q : D → Prop} (hok : HallOk w h shuts kinds st) (hl : ps.length ≤ 12) (hp : ∀ p ∈ ps, Near 10000000000000000 p) (k : ∀ s : Str, s = (D.nd (.lst o) [hallD w h shuts kinds, standD ps]).py.shown → Q (.at (.str s))) : opt (one1 gStr [.nd (.lst o) [hallD w h shuts kinds, standD ps]]) Q :=
  o_str (n := 5) (L := 200000) (.lst fun x hx => by
    simp only [List.mem_cons, List.not_mem_nil, or_false] at hx
    rcases hx with rfl | rfl
    · exact fit_hall hok
    · exact .tup (Fit.map fun _ _ => fit_cell)) ((Sho.lst (L := 80011) fun x hx => by
    simp only [List.mem_cons, List.not_mem_nil, or_false] at hx
    rcases hx with rfl | rfl
    · exact sho_hall hok
    · exact (sho_stand hl hp).mono (by decide)).mono (by simp)) (by decide) rfl (by decide) (k _ rfl)
end
theorem law_ok (ns : List Int) : sat f_law [scD ns] fun d _ => d = .at (.bl true) := by
  refine sat_law.mpr ?_
  show wp b_law [some (scD ns), none, none, none, none, none, none, none] _
  unfold b_law
  walk_at "y"
  refine begin_ok ns fun c1 hc1 => ?_
  walk_at "y"
  walk_at "ztail"
  walk_at "y"
  with_reducible refine wp_for_inv (I := fun i ρ => ∃ (c : List Int) (t : Int) (x2 x3 x4 x5 x6 x7 : Option D), c ≠ [] ∧ 0 ≤ t ∧ t ≤ 2000 * (i : Int) ∧ ρ = [some (scD ns), some (stD c t), x2, x3, x4, x5, x6, x7]) ?a0 ?a1 ?a2
  · exact ⟨c1, _, _, _, _, _, _, _, hc1, by omega, by omega, rfl⟩
  · rintro i z ρ hz ⟨c, t, x2, x3, x4, x5, x6, x7, hc, g1, g2, rfl⟩
    obtain ⟨rfl, hi⟩ := rangeD_get hz
    walk_at "y"
    refine take_ok hc (by omega) (by omega) (by decide) (by decide) fun c2 r2 hc2 h2 h2' => ?_
    walk_at "y"
    refine hall_ok hc2 (by omega) (by omega) (by decide) fun c3 t3 w h shuts kinds st hc3 h3 h3' hok hcl => ?_
    have hph := pure_hall w h shuts kinds
    have hppt := pure_cellT st
    have hkl := hok.kl
    have hlen := hok.len
    have hpc := pure_cells shuts
    have hbare : HallOk w h shuts [] [] := ⟨hok.w1, hok.w9, hok.h1, hok.h9, hok.sh, hok.shl, rfl, by decide, fun i k p e _ => by simp at e⟩
    have hlow := lowS_ok (hallT_low hok)
    have hlow2 := lowS_ok (hallT_low hbare)
    walk_at "y"
    walk_at "ztail"
    walk_at "y"
    refine o_strLS hok (by omega) (near_stand hok) fun str hstr => ?_
    walk_at "y"
    walk_at "ztail"
    walk_at "y"
    refine ltext_ok hok ?_
    walk_at "y"
    walk_at "ztail"
    walk_at "y"
    refine hall_text_ok hok ?_
    walk_at "y"
    refine same_S (.str _ hlow) rfl ?_
    walk_at "y"
    refine hall_text_ok hok ?_
    walk_at "y"
    refine same_S (.str _ hlow) rfl ?_
    walk_at "y"
    walk_at "ztail"
    walk_at "y"
    refine o_slPreT (xs := [inD w, inD h, .nd .tup (shuts.map cellD), .nd .tup (kinds.map kindD)]) (ys := [inD w, inD h, .nd .tup (shuts.map cellD)]) hph rfl ?_
    walk_at "y"
    refine o_catT (by simp only [pureL, D.pure, Kd.own, hpc, Bool.not_false, Bool.and_true, Bool.true_and]) rfl (by show 3 + 1 ≤ sizeLine; decide) ?_
    have hph2 := pure_hall w h shuts []
    have hp0 := pure_cellT []
    walk_at "y"
    walk_at "ztail"
    walk_at "y"
    refine hall_text_ok (kinds := []) (st := []) hbare ?_
    walk_at "y"
    refine ltext_ok (kinds := []) (st := []) hbare ?_
    walk_at "y"
    refine same_S (.str _ hlow2) rfl ?_
    walk_at "y"
    refine o_strLS hok (by omega) (near_stand hok) fun str2 hstr2 => ?_
    obtain rfl : str2 = str := hstr2.trans hstr.symm
    walk_at "y"
    rw [decide_eq_true rfl]
    walk_at "y"
    exact ⟨c3, t3, _, _, _, _, _, _, hc3, by omega, by omega, rfl⟩
  · rintro ρ ⟨c, t, x2, x3, x4, x5, x6, x7, hc, g1, g2, rfl⟩
    walk_at "z"
    rfl

end HT
set_option maxHeartbeats 0

namespace HT
open PySem PySem.Spec PyProof.Rows L2 Z
theorem fx {w : World} {K : PySem.W.Frag} {h : Heap} {mg : Str → Option Value} (X : K.In h) (G : h.Ns mainGlobals mg) (c : SaysC fa fn cs w K) : Fx w K mg :=
  ⟨He.free_ok X G (c.d.fact 15 (f := .free "all") rfl),
   He.free_ok X G (c.d.fact 16 (f := .free "any") rfl),
   He.free_ok X G (c.d.fact 17 (f := .free "bool") rfl),
   He.free_ok X G (c.d.fact 18 (f := .free "dict") rfl),
   He.free_ok X G (c.d.fact 19 (f := .free "divmod") rfl),
   He.free_ok X G (c.d.fact 20 (f := .free "enumerate") rfl),
   He.free_ok X G (c.d.fact 21 (f := .free "int") rfl),
   He.free_ok X G (c.d.fact 22 (f := .free "isinstance") rfl),
   He.free_ok X G (c.d.fact 23 (f := .free "len") rfl),
   He.free_ok X G (c.d.fact 24 (f := .free "list") rfl),
   He.free_ok X G (c.d.fact 25 (f := .free "min") rfl),
   He.free_ok X G (c.d.fact 26 (f := .free "range") rfl),
   He.free_ok X G (c.d.fact 27 (f := .free "reversed") rfl),
   He.free_ok X G (c.d.fact 28 (f := .free "str") rfl),
   He.free_ok X G (c.d.fact 29 (f := .free "tuple") rfl),
   He.free_ok X G (c.d.fact 30 (f := .free "zip") rfl),
   c.con X G 0 rfl,
   c.con X G 1 rfl,
   c.con X G 2 rfl,
   c.con X G 3 rfl,
   c.con X G 4 rfl,
   (let ⟨fd, F⟩ := c.d.def_ 0 (d := d_covered) rfl; ⟨_, fd, F, He.glo_ok X G (c.d.fact 0 (f := .glo "covered") rfl)⟩),
   (let ⟨fd, F⟩ := c.d.def_ 1 (d := d_picture_of) rfl; ⟨_, fd, F, He.glo_ok X G (c.d.fact 1 (f := .glo "picture_of") rfl)⟩),
   (let ⟨fd, F⟩ := c.d.def_ 2 (d := d_way_row) rfl; ⟨_, fd, F, He.glo_ok X G (c.d.fact 2 (f := .glo "way_row") rfl)⟩),
   (let ⟨fd, F⟩ := c.d.def_ 3 (d := d_hall_text) rfl; ⟨_, fd, F, He.glo_ok X G (c.d.fact 3 (f := .glo "hall_text") rfl)⟩),
   (let ⟨fd, F⟩ := c.d.def_ 4 (d := d__law_begin) rfl; ⟨_, fd, F, He.glo_ok X G (c.d.fact 4 (f := .glo "_law_begin") rfl)⟩),
   (let ⟨fd, F⟩ := c.d.def_ 5 (d := d__law_take) rfl; ⟨_, fd, F, He.glo_ok X G (c.d.fact 5 (f := .glo "_law_take") rfl)⟩),
   (let ⟨fd, F⟩ := c.d.def_ 6 (d := d__law_same) rfl; ⟨_, fd, F, He.glo_ok X G (c.d.fact 6 (f := .glo "_law_same") rfl)⟩),
   (let ⟨fd, F⟩ := c.d.def_ 7 (d := d__law_covered) rfl; ⟨_, fd, F, He.glo_ok X G (c.d.fact 7 (f := .glo "_law_covered") rfl)⟩),
   (let ⟨fd, F⟩ := c.d.def_ 8 (d := d__law_room_of) rfl; ⟨_, fd, F, He.glo_ok X G (c.d.fact 8 (f := .glo "_law_room_of") rfl)⟩),
   (let ⟨fd, F⟩ := c.d.def_ 9 (d := d__law_sized) rfl; ⟨_, fd, F, He.glo_ok X G (c.d.fact 9 (f := .glo "_law_sized") rfl)⟩),
   (let ⟨fd, F⟩ := c.d.def_ 10 (d := d__law_kind) rfl; ⟨_, fd, F, He.glo_ok X G (c.d.fact 10 (f := .glo "_law_kind") rfl)⟩),
   (let ⟨fd, F⟩ := c.d.def_ 11 (d := d__law_hall) rfl; ⟨_, fd, F, He.glo_ok X G (c.d.fact 11 (f := .glo "_law_hall") rfl)⟩),
   (let ⟨fd, F⟩ := c.d.def_ 12 (d := d__law_picture) rfl; ⟨_, fd, F, He.glo_ok X G (c.d.fact 12 (f := .glo "_law_picture") rfl)⟩),
   (let ⟨fd, F⟩ := c.d.def_ 13 (d := d__law_text) rfl; ⟨_, fd, F, He.glo_ok X G (c.d.fact 13 (f := .glo "_law_text") rfl)⟩),
   (let ⟨fd, F⟩ := c.d.def_ 14 (d := d_law) rfl; ⟨_, fd, F, He.glo_ok X G (c.d.fact 14 (f := .glo "law") rfl)⟩)⟩
theorem facts {P : Program} {w : World} {K : PySem.W.Frag} {h : Heap} {mg : Str → Option Value} {f : Addr} (X : K.In h) (G : h.Ns mainGlobals mg) (hfa : mg ("law" : Str) = some (.ref f)) (c : SaysC fa fn cs w K) (base : Heap) (s : Shared) (H : Hp) (a : Addr) (ns : List Int)
    (e0 : Env0 P w K mg base callerA [] s H) (hS : SqL K H a (ns.map V.int)) : codeAny (model P w) callerA (.call (.ref f) ⟨[.ref a], []⟩) (CR CX0 [] P w H s (fun v _ => v = .bl true) fun _ _ _ => False) s := by
  have hx := fx X G c
  obtain ⟨fd, F⟩ := c.d.def_ 14 (d := d_law) rfl
  have e := hfa.symm.trans (He.glo_ok X G (c.d.fact 14 (f := .glo "law") rfl))
  cases e
  have b := FunD.bindsA (ps := ["_law_script"]) F fun _ _ _ _ _ _ us hl => match us, hl with | [_], _ => rfl
  have hr : Room 10 callerA := ⟨rfl, by decide, by decide⟩
  refine run_atD (k := 9) (vs := [V.ref a]) (us := [Value.ref a]) F sc_law hr e0 (b s [.ref a] rfl) (.cons rfl .nil) (fun cdv => dv_law hx (cal__law_begin hx) (cal__law_hall hx) (cal__law_text hx) (cal__law_take hx) (cal__law_same hx 8) (cal_hall_text hx) cdv callerA [] s H _ (hr.deeper _) rfl) ?_
  refine sp_true (m := ⟨P, w, K, mg⟩) (fun ns => ?_) ⟨a, ns, rfl, hS, fun _ => rfl⟩
  have q := law_ok ns
  unfold f_law at q
  exact q
end HT
open PySem PySem.W PySem.Calls PyProof.Rows
theorem PySem.Challenge.cw_slidehall_k56_halls_written_holds : PySem.Challenge.rw_slidehall_k56_halls_written.Holds := by
  refine HT.pre ?_
  refine Z.walk_at (l := PySem.Challenge.rw_slidehall_k56_halls_written) (n := 63) rfl (by decide) HT.pre_df ?F
  intro w mg fa h Y G hmg0
  obtain ⟨K, KX, c⟩ := Y
  have hmg : mg ("law" : PySem.Str) = some (.ref fa) := by
    rw [← HT.pre_nm]
    exact hmg0
  exact ⟨K, KX, fun base s H a ns hl _ _ e0 hS => HT.facts (P := (PySem.Challenge.rw_slidehall_k56_halls_written).prog) (w := w) KX G hmg c base s H a ns e0 hS⟩
